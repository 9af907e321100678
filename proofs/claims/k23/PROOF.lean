import PyProof.Rows.All
import Wide.All
import OpenK.AllK
import Wide.FinOn
import PySem.Challenge.RW_quadwords_k23_whole_needed_and_same
import HandS.ForMost
import HandS.ForExc
import HandS.Wide
import HandS.Evl
import HandS.ExcCtx
import HandS.HotCalls
import HandS.TupAny
import HandS.Deep
import HandS.IsInst
import HandS.Codes
import HandS.More
import HandS.Small
import HandS.ExcIs
import PyProof.ExcBaseAll.ValueError
import HandS.StrMore
import HandS.WideBits
import HandS.Style
import KE.KTupSum
import KE.DataMinMax
import HandS.TupLe
set_option Elab.async false
set_option linter.all false
set_option maxRecDepth 100000
set_option maxHeartbeats 4000000
section
/-! the value layer: data, what stands for it in a heap, environments -/
namespace QW
open PySem PySem.Spec L2
abbrev St := L2.St

/-- a key: a whole number or a text -/
abbrev PKey := Sum Int (List Nat)
def tS (t : List Nat) : Str := ⟨t.toArray⟩
def keyOf : PKey → Key
  | .inl i => .inl i
  | .inr t => .inr (tS t)
theorem tS_inj {a b : List Nat} (h : tS a = tS b) : a = b := by
  have h1 := congrArg (fun s : Str => s.cps.toList) h
  simpa [tS] using h1
theorem keyOf_inj {a b : PKey} (h : keyOf a = keyOf b) : a = b := by
  cases a <;> cases b <;> simp [keyOf] at h
  · rw [h]
  · rw [tS_inj h]
/-- data without a heap -/
inductive D where
  | non | bl (b : Bool) | int (i : Int) | str (s : List Nat)
  | lst (xs : List D) | clst (xs : List D) | tup (xs : List D) | ctup (xs : List D)
  | dk (kvs : List (PKey × D)) | dt (kvs : List (List PKey × D))
instance : Inhabited D := ⟨.non⟩

variable (K : PySem.W.Frag) (S : Hp)
mutual
inductive Rep : D → V → Prop where
  | non : Rep .non .non
  | bl (b : Bool) : Rep (.bl b) (.bl b)
  | int (i : Int) : Rep (.int i) (.int i)
  | str (s : List Nat) : Rep (.str s) (.str (tS s))
  | lst {a : Addr} {vs : List V} {xs : List D} : S a = some (.lst vs) → Reps xs vs → Rep (.lst xs) (.ref a)
  | clst {a : Addr} {vs : List V} {xs : List D} : SqL K S a vs → Reps xs vs → Rep (.clst xs) (.ref a)
  | tup {a : Addr} {vs : List V} {xs : List D} : S a = some (.tup vs) → Reps xs vs → Rep (.tup xs) (.ref a)
  | ctup {a : Addr} {vs : List V} {xs : List D} : SqT K S a vs → Reps xs vs → Rep (.ctup xs) (.ref a)
  | dk {a : Addr} {ws : List (Key × V)} {kvs : List (PKey × D)} : Rd S a (.dK ws) → RepK kvs ws → Rep (.dk kvs) (.ref a)
  | dt {a : Addr} {ws : List (List Key × V)} {kvs : List (List PKey × D)} : Rd S a (.dT ws) → RepT kvs ws → Rep (.dt kvs) (.ref a)
inductive Reps : List D → List V → Prop where
  | nil : Reps [] []
  | cons {d : D} {v : V} {ds : List D} {vs : List V} : Rep d v → Reps ds vs → Reps (d :: ds) (v :: vs)
inductive RepK : List (PKey × D) → List (Key × V) → Prop where
  | nil : RepK [] []
  | cons {k : PKey} {d : D} {v : V} {ds : List (PKey × D)} {vs : List (Key × V)} : Rep d v → RepK ds vs → RepK ((k, d) :: ds) ((keyOf k, v) :: vs)
inductive RepT : List (List PKey × D) → List (List Key × V) → Prop where
  | nil : RepT [] []
  | cons {k : List PKey} {d : D} {v : V} {ds : List (List PKey × D)} {vs : List (List Key × V)} : Rep d v → RepT ds vs → RepT ((k, d) :: ds) ((k.map keyOf, v) :: vs)
end
variable {K S}

/-- what may be locked while it is walked -/
def lockable : HO → Bool
  | .dK _ => true
  | .dT _ => true
  | _ => false
/-- T tells all that S tells -/
structure Sub (S T : Hp) : Prop where
  rd : ∀ a u, Rd S a u → (∀ o x, u ≠ .frz o x) → Rd T a u
  ex : ∀ a u, S a = some u → lockable u = false → T a = some u
theorem Sub.of_ex {S T : Hp} (h : Evl.Ex S T) : Sub S T := ⟨fun a u r _ => Evl.ex_rd h r, fun a u e _ => h a u e⟩
theorem Sub.refl (S : Hp) : Sub S S := ⟨fun _ _ r _ => r, fun _ _ e _ => e⟩
theorem Sub.trans {S T U : Hp} (h : Sub S T) (g : Sub T U) : Sub S U := ⟨fun a u r n => g.rd a u (h.rd a u r n) n, fun a u e l => g.ex a u (h.ex a u e l) l⟩
theorem Sub.l {T : Hp} {a : Addr} {vs : List V} (h : Sub S T) (r : SqL K S a vs) : SqL K T a vs := by
  rcases r with r | r
  · exact .inl (h.rd a _ r fun _ _ z => nomatch z)
  · exact .inr r
theorem Sub.t {T : Hp} {a : Addr} {vs : List V} (h : Sub S T) (r : SqT K S a vs) : SqT K T a vs := by
  rcases r with r | r
  · exact .inl (h.rd a _ r fun _ _ z => nomatch z)
  · exact .inr r
mutual
theorem Rep.mono {T : Hp} (h : Sub S T) : ∀ {d : D} {v : V}, Rep K S d v → Rep K T d v
  | _, _, .non => .non
  | _, _, .bl b => .bl b
  | _, _, .int i => .int i
  | _, _, .str s => .str s
  | _, _, .lst r q => .lst (h.ex _ _ r rfl) (Reps.mono h q)
  | _, _, .clst r q => .clst (h.l r) (Reps.mono h q)
  | _, _, .tup r q => .tup (h.ex _ _ r rfl) (Reps.mono h q)
  | _, _, .ctup r q => .ctup (h.t r) (Reps.mono h q)
  | _, _, .dk r q => .dk (h.rd _ _ r fun _ _ z => nomatch z) (RepK.mono h q)
  | _, _, .dt r q => .dt (h.rd _ _ r fun _ _ z => nomatch z) (RepT.mono h q)
theorem Reps.mono {T : Hp} (h : Sub S T) : ∀ {d : List D} {v : List V}, Reps K S d v → Reps K T d v
  | _, _, .nil => .nil
  | _, _, .cons r q => .cons (Rep.mono h r) (Reps.mono h q)
theorem RepK.mono {T : Hp} (h : Sub S T) : ∀ {d : List (PKey × D)} {v : List (Key × V)}, RepK K S d v → RepK K T d v
  | _, _, .nil => .nil
  | _, _, .cons r q => .cons (Rep.mono h r) (RepK.mono h q)
theorem RepT.mono {T : Hp} (h : Sub S T) : ∀ {d : List (List PKey × D)} {v : List (List Key × V)}, RepT K S d v → RepT K T d v
  | _, _, .nil => .nil
  | _, _, .cons r q => .cons (Rep.mono h r) (RepT.mono h q)
end

/-- what stands at an address that is one's own; its items are told by S -/
def ObR (K : PySem.W.Frag) (S H : Hp) (d : D) (a : Addr) : Prop :=
  match d with
  | .lst xs => ∃ vs, H a = some (.lst vs) ∧ Reps K S xs vs
  | .dk kvs => ∃ ws, H a = some (.dK ws) ∧ RepK K S kvs ws
  | .dt kvs => ∃ ws, H a = some (.dT ws) ∧ RepT K S kvs ws
  | _ => False
theorem ObR.mono {T H H' : Hp} {d : D} {a : Addr} (h : Sub S T) (e : H' a = H a) (r : ObR K S H d a) : ObR K T H' d a := by
  cases d <;> first | exact r.elim | skip
  all_goals (obtain ⟨vs, q, r⟩ := r)
  · exact ⟨vs, e.trans q, Reps.mono h r⟩
  · exact ⟨vs, e.trans q, RepK.mono h r⟩
  · exact ⟨vs, e.trans q, RepT.mono h r⟩
theorem ObR.some {H : Hp} {d : D} {a : Addr} (r : ObR K S H d a) : ∃ o, H a = some o ∧ ∀ b x, o ≠ .frz b x := by
  cases d <;> first | exact r.elim | skip
  all_goals (obtain ⟨vs, q, _⟩ := r; exact ⟨_, q, fun _ _ z => nomatch z⟩)
/-- nothing, or a tuple -/
def NT : Option HO → Bool
  | none => true
  | some (.tup _) => true
  | _ => false
theorem ObR.nt {H : Hp} {d : D} {a : Addr} (r : ObR K S H d a) : NT (H a) = false := by
  cases d <;> first | exact r.elim | (obtain ⟨vs, q, _⟩ := r; rw [q]; rfl)
/-- given up: from then on it stands still -/
theorem ObR.freeze {T H : Hp} {d : D} {a : Addr} (h : Sub S T) (e : T a = H a) (r : ObR K S H d a) : Rep K T d (.ref a) := by
  cases d <;> first | exact r.elim | skip
  all_goals (obtain ⟨vs, q, r⟩ := r)
  · exact .lst (e.trans q) (Reps.mono h r)
  · exact .dk (.inl (e.trans q)) (RepK.mono h r)
  · exact .dt (.inl (e.trans q)) (RepT.mono h r)

/-- a new thing: one's own object, or a tuple -/
def ObT (K : PySem.W.Frag) (S H : Hp) (d : D) (a : Addr) : Prop := ObR K S H d a ∨ ∃ xs vs, d = .tup xs ∧ H a = some (.tup vs) ∧ Reps K S xs vs
theorem ObT.some {H : Hp} {d : D} {a : Addr} (r : ObT K S H d a) : ∃ o, H a = some o ∧ ∀ b x, o ≠ .frz b x := by
  rcases r with r | ⟨xs, vs, rfl, r, _⟩
  · exact r.some
  · exact ⟨_, r, fun _ _ z => nomatch z⟩
theorem ObT.freeze {T H : Hp} {d : D} {a : Addr} (h : Sub S T) (e : T a = H a) (r : ObT K S H d a) : Rep K T d (.ref a) := by
  rcases r with r | ⟨xs, vs, rfl, r, q⟩
  · exact r.freeze h e
  · exact .tup (e.trans r) (Reps.mono h q)

/-- a slot: not stored, data that stands still, an object of one's own (lent by the caller or not) -/
inductive Sl where
  | un | sh (d : D) | ow (lent : Bool) (d : D)
abbrev Env := List Sl
/-- a result: data that stands still, a new object, the object of a slot -/
inductive Res where
  | sh (d : D) | ow (d : D) | al (i : Nat)
/-- a run: an end, an exception (its class's name), or stuck -/
inductive R (ε α : Type) where
  | ok (a : α) | exc (c : String) (e : ε) | stuck
instance {ε α : Type} : Inhabited (R ε α) := ⟨.stuck⟩
def R.bind {ε α β : Type} (m : R ε α) (f : α → R ε β) : R ε β :=
  match m with
  | .ok a => f a
  | .exc c e => .exc c e
  | .stuck => .stuck

/-- the address a is that of an own slot -/
def OwnA (ρ : List Sl) (σ : St) (a : Addr) : Prop := ∃ (i : Nat) (l : Bool) (d : D), ρ[i]? = some (.ow l d) ∧ σ[i]? = some (some (.ref a))
/-- what is locked while it is walked, and as what it stood in the heap -/
structure LK where
  f : Addr → Option Obj
instance : Membership Addr LK := ⟨fun l a => l.f a ≠ none⟩
def LK.nil : LK := ⟨fun _ => none⟩
theorem LK.no {a : Addr} : a ∉ LK.nil := fun h => h rfl
theorem LK.mem {ll : LK} {a : Addr} {ob : Obj} (h : ll.f a = some ob) : a ∈ ll := fun z => by
  have z : ll.f a = none := z
  rw [h] at z; cases z
structure RR (K : PySem.W.Frag) (L : Nat → Option Addr) (ll : LK) (S : Hp) (ρ : List Sl) (σ : St) (H : Hp) : Prop where
  len : ρ.length = σ.length
  ex : ∀ a o, S a = some o → a ∉ ll → H a = some o
  lk : ∀ a ∈ ll, ∃ ob o, (∀ b x, o ≠ .frz b x) ∧ lockable o = true ∧ S a = some o ∧ H a = some (.frz ob o)
  lo : ∀ a ob, ll.f a = some ob → ∃ u, H a = some (.frz ob u)
  nf : ∀ a o u, S a = some (.frz o u) → lockable u = false
  sh : ∀ (i : Nat) d, ρ[i]? = some (.sh d) → ∃ v, σ[i]? = some (some v) ∧ Rep K S d v
  ow : ∀ (i : Nat) l d, ρ[i]? = some (.ow l d) → ∃ a, σ[i]? = some (some (.ref a)) ∧ S a = none ∧ ObR K S H d a ∧ (l = true → L i = some a)
  ln : ∀ (i : Nat) a, L i = some a → ∃ d, ρ[i]? = some (.ow true d)
  sep : ∀ (i j : Nat) l m d e a, ρ[i]? = some (.ow l d) → ρ[j]? = some (.ow m e) → σ[i]? = some (some (.ref a)) → σ[j]? = some (some (.ref a)) → i = j
theorem RR.sub {L : Nat → Option Addr} {ll : LK} {ρ : List Sl} {σ : St} {H : Hp} (r : RR K L ll S ρ σ H) : Sub S H := by
  refine ⟨fun a u h n => ?_, fun a u h l => ?_⟩
  · by_cases ha : a ∈ ll
    · obtain ⟨ob, o, nf, _, e, eh⟩ := r.lk a ha
      rcases h with h | ⟨o', h⟩
      · rw [e] at h; cases h
        exact .inr ⟨ob, eh⟩
      · rw [e] at h; cases h
        exact absurd rfl (nf _ _)
    · rcases h with h | ⟨o', h⟩
      · exact .inl (r.ex a _ h ha)
      · exact .inr ⟨o', r.ex a _ h ha⟩
  · by_cases ha : a ∈ ll
    · obtain ⟨ob, o, nf, lo, e, eh⟩ := r.lk a ha
      rw [e] at h; cases h
      rw [lo] at l; cases l
    · exact r.ex a _ h ha
theorem RR.there {L : Nat → Option Addr} {ll : LK} {ρ : List Sl} {σ : St} {H : Hp} (r : RR K L ll S ρ σ H) {a : Addr} (h : S a ≠ none) : H a ≠ none := by
  cases e : S a with
  | none => exact absurd e h
  | some o =>
    by_cases ha : a ∈ ll
    · obtain ⟨ob, o, nf, _, e, eh⟩ := r.lk a ha
      rw [eh]; simp
    · rw [r.ex a o e ha]; simp
theorem RR.own_none {L : Nat → Option Addr} {ll : LK} {ρ : List Sl} {σ : St} {H : Hp} (r : RR K L ll S ρ σ H) {a : Addr} (h : OwnA ρ σ a) : S a = none := by
  obtain ⟨i, l, d, h1, h2⟩ := h
  obtain ⟨b, e, n, _⟩ := r.ow i l d h1
  rw [h2] at e; cases e
  exact n

/-- how the state goes on: what isn't an own object stays; own objects are old ones or new ones -/
structure Tr (S : Hp) (ρ : List Sl) (σ : St) (H : Hp) (S' : Hp) (ρ' : List Sl) (σ' : St) (H' : Hp) : Prop where
  ex : Evl.Ex S S'
  fr : ∀ a o, H a = some o → ¬ OwnA ρ σ a → H' a = some o
  nw : ∀ a, OwnA ρ' σ' a → OwnA ρ σ a ∨ H a = none
  ns : ∀ a, S' a ≠ none → S a ≠ none ∨ OwnA ρ σ a ∨ NT (H a) = true
  dm : ∀ a, H a ≠ none → H' a ≠ none
theorem Tr.refl {ρ : List Sl} {σ : St} {H : Hp} : Tr S ρ σ H S ρ σ H := ⟨Evl.Ex.refl S, fun _ _ e _ => e, fun _ h => .inl h, fun _ h => .inl h, fun _ h => h⟩
theorem Tr.trans {S' S'' : Hp} {ρ ρ' ρ'' : List Sl} {σ σ' σ'' : St} {H H' H'' : Hp} (a : Tr S ρ σ H S' ρ' σ' H') (b : Tr S' ρ' σ' H' S'' ρ'' σ'' H'') : Tr S ρ σ H S'' ρ'' σ'' H'' where
  ex := a.ex.trans b.ex
  fr := fun x o e n => b.fr x o (a.fr x o e n) fun z => (a.nw x z).elim n fun z => by rw [e] at z; cases z
  nw := fun x h => (b.nw x h).elim (fun z => a.nw x z) fun z => .inr (Classical.byContradiction fun n => a.dm x n z)
  ns := fun x h => by
    rcases b.ns x h with z | z | z
    · exact a.ns x z
    · exact .inr ((a.nw x z).imp id fun z => by rw [z]; rfl)
    · by_cases own : OwnA ρ σ x
      · exact .inr (.inl own)
      · cases e : H x with
        | none => exact .inr (.inr rfl)
        | some o =>
          rw [a.fr x o e own] at z
          exact .inr (.inr z)
  dm := fun x h => b.dm x (a.dm x h)

/-- what a result stands for; H0: the heap ahead of the expression -/
def ResR (K : PySem.W.Frag) (H0 S : Hp) (ρ : List Sl) (σ : St) (H : Hp) (r : Res) (v : V) : Prop :=
  match r with
  | .sh d => Rep K S d v
  | .ow d => ∃ a, v = .ref a ∧ S a = none ∧ ObR K S H d a ∧ ¬ OwnA ρ σ a ∧ H0 a = none
  | .al i => σ[i]? = some (some v)
end QW

end
section
/-! judgements -/
namespace QW
open PySem PySem.Spec L2
section
variable {K : PySem.W.Frag} {L : Nat → Option Addr} {ll : LK} {S S1 S2 : Hp} {ρ ρ1 ρ2 : List Sl} {σ σ1 σ2 : St} {H H0 H1 H2 : Hp}

theorem RR.ownH (r : RR K L ll S ρ σ H) {a : Addr} (h : OwnA ρ σ a) : ∃ o, H a = some o := by
  obtain ⟨i, l, d, h1, h2⟩ := h
  obtain ⟨b, e, n, ob, _⟩ := r.ow i l d h1
  rw [h2] at e; cases e
  obtain ⟨o, q, _⟩ := ob.some
  exact ⟨o, q⟩
/-- a new object is laid -/
theorem RR.alloc (r : RR K L ll S ρ σ H) {p : Addr} {o : HO} (hp : H p = none) : RR K L ll S ρ σ (upd H p o) where
  len := r.len
  ex := fun a u h n => by
    have e := r.ex a u h n
    rw [upd_ne (ne_of_none e hp)]; exact e
  lk := fun a h => by
    obtain ⟨ob, u, nf, nt, e, eh⟩ := r.lk a h
    exact ⟨ob, u, nf, nt, e, by rw [upd_ne (ne_of_none eh hp)]; exact eh⟩
  lo := fun a ob h => by
    obtain ⟨u, e⟩ := r.lo a ob h
    exact ⟨u, by rw [upd_ne (ne_of_none e hp)]; exact e⟩
  nf := r.nf
  sh := r.sh
  ow := fun i l d h => by
    obtain ⟨a, e, n, ob, k⟩ := r.ow i l d h
    obtain ⟨u, q, _⟩ := ob.some
    exact ⟨a, e, n, ob.mono (Sub.refl S) (upd_ne (ne_of_none q hp)), k⟩
  ln := r.ln
  sep := r.sep
theorem Tr.alloc (t : Tr S ρ σ H S1 ρ1 σ1 H1) {p : Addr} {o : HO} (hp : H1 p = none) : Tr S ρ σ H S1 ρ1 σ1 (upd H1 p o) where
  ex := t.ex
  fr := fun a u h n => by
    have e := t.fr a u h n
    rw [upd_ne (ne_of_none e hp)]; exact e
  nw := t.nw
  ns := t.ns
  dm := fun a h => by
    by_cases e : a = p
    · rw [e, upd_same]; simp
    · rw [upd_ne e]; exact t.dm a h
theorem Tr.back (t : Tr S ρ σ H S1 ρ1 σ1 H1) {p : Addr} (hp : H1 p = none) : H p = none := Classical.byContradiction fun n => t.dm p n hp

/-- S and one thing more -/
def setS (S H : Hp) (a : Addr) : Hp := fun b => if b = a then H a else S b
theorem setS_same : setS S H a a = H a := by unfold setS; rw [if_pos rfl]
theorem setS_ne {a b : Addr} (h : b ≠ a) : setS S H a b = S b := by unfold setS; rw [if_neg h]
theorem setS_ex {a : Addr} (h : S a = none) : Evl.Ex S (setS S H a) := fun b o e => by
  rw [setS_ne (ne_of_none e h)]; exact e
theorem RR.freeze (r : RR K L ll S ρ σ H) {a : Addr} (hs : S a = none) (ho : ¬ OwnA ρ σ a) (hf : ∀ o b x, H a = some o → o ≠ .frz b x) : RR K L ll (setS S H a) ρ σ H where
  len := r.len
  ex := fun b u h n => by
    by_cases e : b = a
    · subst e; rw [setS_same] at h; exact h
    · rw [setS_ne e] at h; exact r.ex b u h n
  lk := fun b h => by
    obtain ⟨ob, u, nf, nt, e, eh⟩ := r.lk b h
    exact ⟨ob, u, nf, nt, by rw [setS_ne (ne_of_none e hs)]; exact e, eh⟩
  lo := r.lo
  nf := fun b o u h => by
    by_cases e : b = a
    · subst e; rw [setS_same] at h; exact absurd rfl (hf _ _ _ h)
    · rw [setS_ne e] at h; exact r.nf b o u h
  sh := fun i d h => by
    obtain ⟨v, e, q⟩ := r.sh i d h
    exact ⟨v, e, q.mono (Sub.of_ex (setS_ex hs))⟩
  ow := fun i l d h => by
    obtain ⟨b, e, n, ob, k⟩ := r.ow i l d h
    refine ⟨b, e, ?_, ob.mono (Sub.of_ex (setS_ex hs)) rfl, k⟩
    have hb : b ≠ a := fun z => by
      subst z
      exact ho ⟨i, l, d, h, e⟩
    rw [setS_ne hb]; exact n
  ln := r.ln
  sep := r.sep
theorem Tr.freeze (t : Tr S ρ σ H S1 ρ1 σ1 H1) {a : Addr} (hs : S1 a = none) (h0 : H a = none ∨ OwnA ρ σ a) : Tr S ρ σ H (setS S1 H1 a) ρ1 σ1 H1 where
  ex := t.ex.trans (setS_ex hs)
  fr := t.fr
  nw := t.nw
  ns := fun b h => by
    by_cases e : b = a
    · subst e; exact h0.elim (fun z => .inr (.inr (by rw [z]; rfl))) fun z => .inr (.inl z)
    · rw [setS_ne e] at h; exact t.ns b h
  dm := t.dm

/-- a result is still good -/
theorem ResR.shift {r : Res} {v : V} (h : ResR K H0 S ρ σ H r v) (t : Tr S ρ σ H S1 ρ1 σ H1) : ResR K H0 S1 ρ1 σ H1 r v := by
  cases r with
  | sh d => exact Rep.mono (Sub.of_ex t.ex) h
  | al i => exact h
  | ow d =>
    obtain ⟨a, e, n, ob, no, h0⟩ := h
    obtain ⟨o, q, _⟩ := ob.some
    have qn : H a ≠ none := by rw [q]; simp
    have g1 : ¬ OwnA ρ1 σ a := fun z => (t.nw a z).elim no qn
    have g2 : S1 a = none := Classical.byContradiction fun z => (t.ns a z).elim (fun z => z n) fun z => z.elim no fun z => by rw [ob.nt] at z; cases z
    exact ⟨a, e, g2, ob.mono (Sub.of_ex t.ex) ((t.fr a o q no).trans q.symm), g1, h0⟩
/-- from an earlier heap -/
theorem ResR.back {r : Res} {v : V} (h : ResR K H0 S ρ σ H r v) (f : ∀ a, H0 a = none → H2 a = none) : ResR K H2 S ρ σ H r v := by
  cases r with
  | sh d => exact h
  | al i => exact h
  | ow d =>
    obtain ⟨a, e, n, ob, no, h0⟩ := h
    exact ⟨a, e, n, ob, no, f a h0⟩
def Res.get (ρ : List Sl) : Res → Option D
  | .sh d => some d
  | .ow d => some d
  | .al i => match ρ[i]? with
    | some (.sh d) => some d
    | some (.ow _ d) => some d
    | _ => none
/-- what is handed to an operation: data that stands still, or an object that stands now -/
def Opd (K : PySem.W.Frag) (S H : Hp) (d : D) (v : V) : Prop := Rep K S d v ∨ ∃ a, v = .ref a ∧ ObR K S H d a
theorem ResR.opd {r : Res} {v : V} {d : D} (h : ResR K H0 S ρ σ H r v) (q : RR K L ll S ρ σ H) (g : r.get ρ = some d) : Opd K S H d v := by
  cases r with
  | sh d' =>
    cases g
    exact .inl h
  | ow d' =>
    cases g
    obtain ⟨a, e, n, ob, no⟩ := h
    exact .inr ⟨a, e, ob⟩
  | al i =>
    have h : σ[i]? = some (some v) := h
    cases e : ρ[i]? with
    | none => simp [Res.get, e] at g
    | some sl =>
      cases sl with
      | un => simp [Res.get, e] at g
      | sh d' =>
        simp [Res.get, e] at g
        subst g
        obtain ⟨w, e1, rp⟩ := q.sh i d' e
        rw [h] at e1; cases e1
        exact .inl rp
      | ow l d' =>
        simp [Res.get, e] at g
        subst g
        obtain ⟨a, e1, n, ob, _⟩ := q.ow i l d' e
        rw [h] at e1; cases e1
        exact .inr ⟨a, rfl, ob⟩
/-- all of it by the heap as it is -/
theorem Opd.rep {d : D} {v : V} (h : Opd K S H d v) (s : Sub S H) : Rep K H d v := by
  rcases h with h | ⟨a, rfl, h⟩
  · exact h.mono s
  · exact h.freeze s rfl
end

/-! ### judgements -/
section
variable (X : Cx) (W : WX) (L : Nat → Option Addr)
abbrev RE := R (List Sl) (Res × List Sl)
def GoX (ll : LK) (S : Hp) (ρ : List Sl) (σ : St) (H : Hp) (c : String) (ρ' : List Sl) : Prop :=
  ∀ S' σ' H' C, RR X.K L ll S' ρ' σ' H' → Tr S ρ σ H S' ρ' σ' H' → X.mg (Str.ofString c) = some (.ref C) → W (.ref C) none σ' H'
def GoE (ll : LK) (S : Hp) (ρ : List Sl) (σ : St) (H : Hp) (r : RE) (Q : VK) : Prop :=
  match r with
  | .ok (r, ρ') => ∀ S' v H', RR X.K L ll S' ρ' σ H' → Tr S ρ σ H S' ρ' σ H' → ResR X.K H S' ρ' σ H' r v → Q v H'
  | .exc c ρ' => GoX X W L ll S ρ σ H c ρ'
  | .stuck => False
def rdE (f : List Sl → RE) : TE := fun σ H Q => ∃ ll S ρ, RR X.K L ll S ρ σ H ∧ GoE X W L ll S ρ σ H (f ρ) Q
structure VE (e : Expr) (f : List Sl → RE) : Prop where
  pe : PE X e (rdE X W L f)
abbrev RB := R (List Sl) (Bool × List Sl)
def GoB (ll : LK) (S : Hp) (ρ : List Sl) (σ : St) (H : Hp) (r : RB) (Q : Bool → Hp → Prop) : Prop :=
  match r with
  | .ok (b, ρ') => ∀ S' H', RR X.K L ll S' ρ' σ H' → Tr S ρ σ H S' ρ' σ H' → Q b H'
  | .exc c ρ' => GoX X W L ll S ρ σ H c ρ'
  | .stuck => False
def rdB (f : List Sl → RB) : TT := fun σ H Q => ∃ ll S ρ, RR X.K L ll S ρ σ H ∧ GoB X W L ll S ρ σ H (f ρ) Q
structure VT (e : Expr) (f : List Sl → RB) : Prop where
  pt : PT X e (rdB X W L f)
/-- and, or: whatever the whole is -/
structure VW (e : Expr) (f : List Sl → RB) : Prop where
  pw : PW X e (rdB X W L f)
abbrev RL := R (List Sl) (List Res × List Sl)
inductive ResRs (K : PySem.W.Frag) (H0 S : Hp) (ρ : List Sl) (σ : St) (H : Hp) : List Res → List V → Prop where
  | nil : ResRs K H0 S ρ σ H [] []
  | cons {r : Res} {v : V} {rs : List Res} {vs : List V} : ResR K H0 S ρ σ H r v → ResRs K H0 S ρ σ H rs vs → ResRs K H0 S ρ σ H (r :: rs) (v :: vs)
def GoL (ll : LK) (S : Hp) (ρ : List Sl) (σ : St) (H : Hp) (r : RL) (Q : List V → Hp → Prop) : Prop :=
  match r with
  | .ok (rs, ρ') => ∀ S' vs H', RR X.K L ll S' ρ' σ H' → Tr S ρ σ H S' ρ' σ H' → ResRs X.K H S' ρ' σ H' rs vs → Q vs H'
  | .exc c ρ' => GoX X W L ll S ρ σ H c ρ'
  | .stuck => False
def rdL (f : List Sl → RL) : TA := fun σ H Q => ∃ ll S ρ, RR X.K L ll S ρ σ H ∧ GoL X W L ll S ρ σ H (f ρ) Q
structure VA (es : List Expr) (f : List Sl → RL) : Prop where
  pa : PA X es (rdL X W L f)
end
/-- what a def hands back, what is handed to it -/
inductive Ar where
  | sh (d : D) | ow (d : D)
/-- a statement's end -/
inductive Fl where
  | nx (ρ : List Sl) | rt (r : Ar) (ρ : List Sl)
abbrev RS := R (List Sl) Fl
section
variable (X : Cx) (W : WX) (L : Nat → Option Addr)
def RetR (K : PySem.W.Frag) (ρ : List Sl) (σ : St) (H S' H' : Hp) (r : Ar) (v : V) : Prop :=
  match r with
  | .sh d => Rep K S' d v
  | .ow d => ∃ a, v = .ref a ∧ S' a = none ∧ ObR K S' H' d a ∧ (H a = none ∨ OwnA ρ σ a) ∧ ∀ i, L i ≠ some a
def GoS (ll : LK) (S : Hp) (ρ : List Sl) (σ : St) (H : Hp) (r : RS) (D : Ends) : Prop :=
  match r with
  | .ok (.nx ρ') => ∀ S' σ' H', RR X.K L ll S' ρ' σ' H' → Tr S ρ σ H S' ρ' σ' H' → D.nx σ' H'
  | .ok (.rt r ρ') => ∀ S' σ' v H', RR X.K L ll S' ρ' σ' H' → Tr S ρ σ H S' ρ' σ' H' → RetR L X.K ρ σ H S' H' r v → D.rt v H'
  | .exc c ρ' => GoX X W L ll S ρ σ H c ρ'
  | .stuck => False
def rdS (f : List Sl → RS) : TS := fun D σ H => ∃ ll S ρ, RR X.K L ll S ρ σ H ∧ GoS X W L ll S ρ σ H (f ρ) D
structure VS (s : Stmt) (f : List Sl → RS) : Prop where
  ps : PS X s (rdS X W L f)
structure VSs (s : List Stmt) (f : List Sl → RS) : Prop where
  pss : PSs X s (rdS X W L f)
end
section
variable {X : Cx} {W : WX} {L : Nat → Option Addr} {e : Expr} {t : TE}
theorem PE.weak {t' : TE} (h : PE X e t) (w : ∀ σ H Q, t' σ H Q → t σ H Q) : PE X e t' := ⟨fun pins s σ H Q I q => h.run pins s σ H Q I (w σ H Q q)⟩
theorem PT.weak {t t' : TT} (h : PT X e t) (w : ∀ σ H Q, t' σ H Q → t σ H Q) : PT X e t' := ⟨fun pins s σ H Q I q => h.run pins s σ H Q I (w σ H Q q)⟩
theorem PW.weak {t t' : TT} (h : PW X e t) (w : ∀ σ H Q, t' σ H Q → t σ H Q) : PW X e t' := ⟨fun wh pins s σ H Q I q => h.run wh pins s σ H Q I (w σ H Q q)⟩
theorem PA.weak {es : List Expr} {t t' : TA} (h : PA X es t) (w : ∀ σ H Q, t' σ H Q → t σ H Q) : PA X es t' := ⟨fun p pins s σ H Q I q => h.run p pins s σ H Q I (w σ H Q q)⟩
theorem PS.weak {st : Stmt} {t t' : TS} (h : PS X st t) (w : ∀ σ H D, t' D σ H → t D σ H) : PS X st t' := ⟨fun pins s σ H D I q => h.run pins s σ H D I (w σ H D q)⟩
theorem PSs.weak {st : List Stmt} {t t' : TS} (h : PSs X st t) (w : ∀ σ H D, t' D σ H → t D σ H) : PSs X st t' := ⟨fun pins s σ H D I q => h.run pins s σ H D I (w σ H D q)⟩
/-- the exception's air, from further back -/
theorem GoX.back {ll : LK} {S S1 : Hp} {ρ ρ1 ρ' : List Sl} {σ σ1 : St} {H H1 : Hp} {c : String} (h : GoX X W L ll S ρ σ H c ρ') (t : Tr S ρ σ H S1 ρ1 σ1 H1) : GoX X W L ll S1 ρ1 σ1 H1 c ρ' :=
  fun S' σ' H' C r t' m => h S' σ' H' C r (t.trans t') m
end
end QW

end
section
/-! combinators for expressions -/
namespace QW
open PySem PySem.Spec L2

/-! ### operations by values -/
/-- what an operation that makes at most one thing leaves -/
def PrimQ (K : PySem.W.Frag) (S H : Hp) (r : Res) (Q : VK) : Prop :=
  match r with
  | .sh d => ∀ v, Rep K S d v → Q v H
  | .ow d => ∀ p o, H p = none → ObT K S (upd H p o) d p → Q (.ref p) (upd H p o)
  | .al _ => False
/-- a new tuple stands still at once -/
def Res.norm : Res → Res
  | .ow (.tup xs) => .sh (.tup xs)
  | r => r
abbrev P1 := D → Option Res
abbrev P2 := D → D → Option Res
abbrev PN := List D → Option Res
inductive Opds (K : PySem.W.Frag) (S H : Hp) : List D → List V → Prop where
  | nil : Opds K S H [] []
  | cons {d : D} {v : V} {ds : List D} {vs : List V} : Opd K S H d v → Opds K S H ds vs → Opds K S H (d :: ds) (v :: vs)
def rP1 (K : PySem.W.Frag) (p : P1) : V → Hp → VK → Prop := fun x H Q => ∃ S dx r, Sub S H ∧ Opd K S H dx x ∧ p dx = some r ∧ PrimQ K S H r Q
def rP2 (K : PySem.W.Frag) (p : P2) : R2 := fun x y H Q => ∃ S dx dy r, Sub S H ∧ Opd K S H dx x ∧ Opd K S H dy y ∧ p dx dy = some r ∧ PrimQ K S H r Q
def rPN (K : PySem.W.Frag) (p : PN) : List V → Hp → VK → Prop := fun xs H Q => ∃ S ds r, Sub S H ∧ Opds K S H ds xs ∧ p ds = some r ∧ PrimQ K S H r Q
/-- an operation that tells data alone -/
def pV (p : D → D → Option D) : P2 := fun x y => (p x y).map .sh
def pB (p : D → D → Option Bool) : P2 := fun x y => (p x y).map fun b => .sh (.bl b)
def pO (p : D → D → Option D) : P2 := fun x y => (p x y).map .ow
def P2.or (p q : P2) : P2 := fun x y => (p x y).or (q x y)
section
variable {X : Cx}
theorem OpR.or2 {f : Value → Value → Sem Value} {p q : P2} (h : OpR X f (rP2 X.K p)) (g : OpR X f (rP2 X.K q)) : OpR X f (rP2 X.K (p.or q)) := by
  intro pins s σ H x y v u Q I rx ry hh
  obtain ⟨S, dx, dy, r, hs, hx, hy, e, k⟩ := hh
  unfold P2.or at e
  cases e1 : p dx dy with
  | some r' =>
    rw [e1] at e
    exact h pins s σ H x y v u Q I rx ry ⟨S, dx, dy, r', hs, hx, hy, e1, by cases e; exact k⟩
  | none =>
    rw [e1] at e
    exact g pins s σ H x y v u Q I rx ry ⟨S, dx, dy, r, hs, hx, hy, by simpa using e, k⟩
end

/-! ### operands read off -/
section
variable {K : PySem.W.Frag} {S H : Hp} {v : V}
theorem Opd.non (h : Opd K S H .non v) : v = .non := by rcases h with h | ⟨_, _, h⟩ <;> cases h; rfl
theorem Opd.bl {b : Bool} (h : Opd K S H (.bl b) v) : v = .bl b := by rcases h with h | ⟨_, _, h⟩ <;> cases h; rfl
theorem Opd.int {i : Int} (h : Opd K S H (.int i) v) : v = .int i := by rcases h with h | ⟨_, _, h⟩ <;> cases h; rfl
theorem Opd.str {t : List Nat} (h : Opd K S H (.str t) v) : v = .str (tS t) := by rcases h with h | ⟨_, _, h⟩ <;> cases h; rfl
theorem Opd.lst {xs : List D} (h : Opd K S H (.lst xs) v) (s : Sub S H) : ∃ a vs, v = .ref a ∧ H a = some (.lst vs) ∧ Reps K S xs vs := by
  rcases h with h | ⟨a, rfl, vs, h, q⟩
  · cases h with
    | lst h q => exact ⟨_, _, rfl, s.ex _ _ h rfl, q⟩
  · exact ⟨a, vs, rfl, h, q⟩
theorem Opd.clst {xs : List D} (h : Opd K S H (.clst xs) v) (s : Sub S H) : ∃ a vs, v = .ref a ∧ SqL K H a vs ∧ Reps K S xs vs := by
  rcases h with h | ⟨a, rfl, h⟩
  · cases h with
    | clst h q => exact ⟨_, _, rfl, s.l h, q⟩
  · exact h.elim
theorem Opd.tup {xs : List D} (h : Opd K S H (.tup xs) v) (s : Sub S H) : ∃ a vs, v = .ref a ∧ H a = some (.tup vs) ∧ Reps K S xs vs := by
  rcases h with h | ⟨a, rfl, h⟩
  · cases h with
    | tup h q => exact ⟨_, _, rfl, s.ex _ _ h rfl, q⟩
  · exact h.elim
theorem Opd.ctup {xs : List D} (h : Opd K S H (.ctup xs) v) (s : Sub S H) : ∃ a vs, v = .ref a ∧ SqT K H a vs ∧ Reps K S xs vs := by
  rcases h with h | ⟨a, rfl, h⟩
  · cases h with
    | ctup h q => exact ⟨_, _, rfl, s.t h, q⟩
  · exact h.elim
theorem Opd.dk {xs : List (PKey × D)} (h : Opd K S H (.dk xs) v) (s : Sub S H) : ∃ a vs, v = .ref a ∧ Rd H a (.dK vs) ∧ RepK K S xs vs := by
  rcases h with h | ⟨a, rfl, vs, h, q⟩
  · cases h with
    | dk h q => exact ⟨_, _, rfl, s.rd _ _ h (fun _ _ z => nomatch z), q⟩
  · exact ⟨a, vs, rfl, .inl h, q⟩
theorem Opd.dt {xs : List (List PKey × D)} (h : Opd K S H (.dt xs) v) (s : Sub S H) : ∃ a vs, v = .ref a ∧ Rd H a (.dT vs) ∧ RepT K S xs vs := by
  rcases h with h | ⟨a, rfl, vs, h, q⟩
  · cases h with
    | dt h q => exact ⟨_, _, rfl, s.rd _ _ h (fun _ _ z => nomatch z), q⟩
  · exact ⟨a, vs, rfl, .inl h, q⟩
/-- the items of a list or tuple -/
def D.items : D → Option (List D)
  | .lst xs => some xs
  | .clst xs => some xs
  | .tup xs => some xs
  | .ctup xs => some xs
  | _ => none
theorem Opd.seq {d : D} {xs : List D} (h : Opd K S H d v) (s : Sub S H) (e : d.items = some xs) : ∃ a vs, v = .ref a ∧ (SqL K H a vs ∨ SqT K H a vs) ∧ Reps K S xs vs := by
  cases d <;> simp [D.items] at e
  all_goals subst e
  · obtain ⟨a, vs, h1, h2, h3⟩ := h.lst s
    exact ⟨a, vs, h1, .inl (.inl (.inl h2)), h3⟩
  · obtain ⟨a, vs, h1, h2, h3⟩ := h.clst s
    exact ⟨a, vs, h1, .inl h2, h3⟩
  · obtain ⟨a, vs, h1, h2, h3⟩ := h.tup s
    exact ⟨a, vs, h1, .inr (.inl (.inl h2)), h3⟩
  · obtain ⟨a, vs, h1, h2, h3⟩ := h.ctup s
    exact ⟨a, vs, h1, .inr h2, h3⟩
theorem Reps.length : ∀ {xs : List D} {vs : List V}, Reps K S xs vs → xs.length = vs.length
  | _, _, .nil => rfl
  | _, _, .cons _ q => by simp [Reps.length q]
theorem Reps.get : ∀ {xs : List D} {vs : List V} {i : Nat} {d : D}, Reps K S xs vs → xs[i]? = some d → ∃ v, vs[i]? = some v ∧ Rep K S d v
  | _, _, _, _, .nil, e => by simp at e
  | _, _, 0, _, .cons r _, e => by
    simp at e
    subst e
    exact ⟨_, rfl, r⟩
  | _, _, i + 1, _, .cons _ q, e => by
    obtain ⟨v, h1, h2⟩ := Reps.get (i := i) q (by simpa using e)
    exact ⟨v, by simpa using h1, h2⟩
theorem Reps.append : ∀ {xs ys : List D} {vs ws : List V}, Reps K S xs vs → Reps K S ys ws → Reps K S (xs ++ ys) (vs ++ ws)
  | _, _, _, _, .nil, h => h
  | _, _, _, _, .cons r q, h => .cons r (Reps.append q h)
theorem Reps.drop : ∀ {xs : List D} {vs : List V} (n : Nat), Reps K S xs vs → Reps K S (xs.drop n) (vs.drop n)
  | _, _, 0, h => h
  | _, _, _ + 1, .nil => .nil
  | _, _, n + 1, .cons _ q => Reps.drop n q
theorem Reps.take : ∀ {xs : List D} {vs : List V} (n : Nat), Reps K S xs vs → Reps K S (xs.take n) (vs.take n)
  | _, _, 0, h => .nil
  | _, _, _ + 1, .nil => .nil
  | _, _, n + 1, .cons r q => .cons r (Reps.take n q)
theorem Reps.set {d : D} {v : V} (h : Rep K S d v) : ∀ {xs : List D} {vs : List V} (n : Nat), Reps K S xs vs → Reps K S (xs.set n d) (vs.set n v)
  | _, _, _, .nil => .nil
  | _, _, 0, .cons _ q => .cons h q
  | _, _, n + 1, .cons r q => .cons r (Reps.set h n q)
theorem Reps.reverse : ∀ {xs : List D} {vs : List V}, Reps K S xs vs → Reps K S xs.reverse vs.reverse
  | _, _, .nil => .nil
  | _, _, .cons r q => by
    simp only [List.reverse_cons]
    exact Reps.append (Reps.reverse q) (.cons r .nil)
theorem Reps.ints : ∀ {ns : List Int} {vs : List V}, Reps K S (ns.map D.int) vs → vs = ns.map V.int
  | [], _, h => by cases h; rfl
  | n :: r, _, h => by
    cases h with
    | cons h q =>
      cases h
      rw [Reps.ints q]
      rfl
theorem Reps.strs : ∀ {ns : List (List Nat)} {vs : List V}, Reps K S (ns.map D.str) vs → vs = ns.map fun t => V.str (tS t)
  | [], _, h => by cases h; rfl
  | n :: r, _, h => by
    cases h with
    | cons h q =>
      cases h
      rw [Reps.strs q]
      rfl
theorem Reps.bls : ∀ {ns : List Bool} {vs : List V}, Reps K S (ns.map D.bl) vs → vs = ns.map V.bl
  | [], _, h => by cases h; rfl
  | n :: r, _, h => by
    cases h with
    | cons h q =>
      cases h
      rw [Reps.bls q]
      rfl
end

/-! ### runs -/
abbrev EnvQ := List Sl
abbrev CE1 := EnvQ → RE
abbrev CB := EnvQ → RB
abbrev CL := EnvQ → RL
def eName (i : Nat) : CE1 := fun ρ => match ρ[i]? with
  | some (.sh d) => .ok (.sh d, ρ)
  | some (.ow _ _) => .ok (.al i, ρ)
  | _ => .stuck
/-- an own object given up -/
def eShare (i : Nat) : CE1 := fun ρ => match ρ[i]? with
  | some (.sh d) => .ok (.sh d, ρ)
  | some (.ow false d) => .ok (.sh d, ρ.set i (.sh d))
  | _ => .stuck
def eC (d : D) : CE1 := fun ρ => .ok (.sh d, ρ)
def opt {α ε β : Type} (o : Option α) (f : α → R ε β) : R ε β := match o with
  | some a => f a
  | none => .stuck
def eTwo (fa fb : CE1) (k : Res → Res → EnvQ → RE) : CE1 := fun ρ => (fa ρ).bind fun a => (fb a.2).bind fun b => k a.1 b.1 b.2
def kP2 (p : P2) (x y : Res) (ρ : EnvQ) : RE := opt (x.get ρ) fun dx => opt (y.get ρ) fun dy => opt (p dx dy) fun r => .ok (r.norm, ρ)
def eBin (p : P2) (fa fb : CE1) : CE1 := eTwo fa fb (kP2 p)
def eUn (p : P1) (fa : CE1) : CE1 := fun ρ => (fa ρ).bind fun a => opt (a.1.get a.2) fun dx => opt (p dx) fun r => .ok (r.norm, a.2)
/-- a test off a value -/
def bVal (fa : CE1) : CB := fun ρ => (fa ρ).bind fun a => match a.1.get a.2 with
  | some (.bl b) => .ok (b, a.2)
  | _ => .stuck
def bAnd (fa fb : CB) : CB := fun ρ => (fa ρ).bind fun a => if a.1 = true then fb a.2 else .ok (false, a.2)
def bOr (fa fb : CB) : CB := fun ρ => (fa ρ).bind fun a => if a.1 = true then .ok (true, a.2) else fb a.2
def bNot (fa : CB) : CB := fun ρ => (fa ρ).bind fun a => .ok (!a.1, a.2)
/-- a truth off a test -/
def eIf (c : CB) (fa fb : CE1) : CE1 := fun ρ => (c ρ).bind fun a => if a.1 = true then fa a.2 else fb a.2
def eAnd (fa fb : CE1) : CE1 := fun ρ => (bVal fa ρ).bind fun a => if a.1 = true then fb a.2 else .ok (.sh (.bl false), a.2)
def eOr (fa fb : CE1) : CE1 := fun ρ => (bVal fa ρ).bind fun a => if a.1 = true then .ok (.sh (.bl true), a.2) else fb a.2
def eNot (fa : CE1) : CE1 := fun ρ => (bVal fa ρ).bind fun a => .ok (.sh (.bl (!a.1)), a.2)
def lNil : CL := fun ρ => .ok ([], ρ)
def lCons (fa : CE1) (fr : CL) : CL := fun ρ => (fa ρ).bind fun a => (fr a.2).bind fun b => .ok (a.1 :: b.1, b.2)
/-- chains: a op b op' c -/
def eChain (p q : P2) (fa fb fc : CE1) : CE1 := fun ρ => (fa ρ).bind fun a => (fb a.2).bind fun b => (kP2 p a.1 b.1 b.2).bind fun z => match z.1 with
  | .sh (.bl true) => (fc z.2).bind fun c => kP2 q b.1 c.1 c.2
  | .sh (.bl false) => .ok (.sh (.bl false), z.2)
  | _ => .stuck
def Res.own : Res → Option D
  | .sh d => some d
  | .ow d => some d
  | .al _ => none
def owns : List Res → Option (List D)
  | [] => some []
  | r :: rs => (r.own).bind fun d => (owns rs).map (d :: ·)
def gets (ρ : EnvQ) : List Res → Option (List D)
  | [] => some []
  | r :: rs => (r.get ρ).bind fun d => (gets ρ rs).map (d :: ·)
def eTup (fl : CL) : CE1 := fun ρ => (fl ρ).bind fun a => opt (owns a.1) fun ds => if ds.length ≤ 100000 then .ok (.sh (.tup ds), a.2) else .stuck
def eLst (fl : CL) : CE1 := fun ρ => (fl ρ).bind fun a => opt (owns a.1) fun ds => if ds.length ≤ 100000 then .ok (.ow (.lst ds), a.2) else .stuck
/-- a built-in called -/
def eCallB (p : PN) (fl : CL) : CE1 := fun ρ => (fl ρ).bind fun a => opt (gets a.2 a.1) fun ds => opt (p ds) fun r => .ok (r.norm, a.2)

section
variable {X : Cx} {W : WX} {L : Nat → Option Addr} {e a b c : Expr} {pos : Pos} {fa fb fc : CE1} {ca cb : CB} {fl : CL} {ll : LK} {S S1 S2 : Hp} {ρ ρ1 ρ2 : EnvQ} {σ : St} {H H1 H2 : Hp} {Q : VK}

theorem opt_some {α ε β : Type} {o : Option α} {f : α → R ε β} {Pr : R ε β → Prop} (h : Pr (opt o f)) (hs : Pr .stuck → False) : ∃ x, o = some x ∧ Pr (f x) := by
  cases o with
  | none => exact (hs h).elim
  | some x => exact ⟨x, rfl, h⟩
theorem GoE.newTup {xs : List D} (h2 : RR X.K L ll S2 ρ2 σ H2) (t : Tr S ρ σ H S2 ρ2 σ H2) (g : GoE X W L ll S ρ σ H (.ok (.sh (.tup xs), ρ2)) Q) {p : Addr} {o : HO} (hp : H2 p = none) (ob : ObT X.K S2 (upd H2 p o) (.tup xs) p) : Q (.ref p) (upd H2 p o) := by
  have nS : S2 p = none := Classical.byContradiction fun n => h2.there n hp
  have no : ¬ OwnA ρ2 σ p := fun z => by
    obtain ⟨u, e⟩ := h2.ownH z
    rw [hp] at e; cases e
  obtain ⟨o', q, nf⟩ := ob.some
  exact g (setS S2 (upd H2 p o) p) (.ref p) (upd H2 p o) ((h2.alloc hp).freeze nS no fun o2 b x q' => by rw [q] at q'; cases q'; exact nf b x) ((t.alloc hp).freeze nS (.inl (t.back hp))) (ob.freeze (Sub.of_ex (setS_ex nS)) setS_same)
theorem GoE.prim {r : Res} (h2 : RR X.K L ll S2 ρ2 σ H2) (t : Tr S ρ σ H S2 ρ2 σ H2) (g : GoE X W L ll S ρ σ H (.ok (r.norm, ρ2)) Q) (na : ∀ i, r ≠ .al i) : PrimQ X.K S2 H2 r Q := by
  cases r with
  | al i => exact absurd rfl (na i)
  | sh d => exact fun v hv => g S2 v H2 h2 t hv
  | ow d =>
    intro p o hp ob
    rcases ob with ob | ⟨xs, vs, rfl, q, rs⟩
    · have e : (Res.ow d).norm = .ow d := by
        cases d <;> first | rfl | exact ob.elim
      rw [e] at g
      refine g S2 (.ref p) (upd H2 p o) (h2.alloc hp) (t.alloc hp) ⟨p, rfl, ?_, ob, fun z => ?_, t.back hp⟩
      · exact Classical.byContradiction fun n => h2.there n hp
      · obtain ⟨u, e⟩ := h2.ownH z
        rw [hp] at e; cases e
    · exact GoE.newTup h2 t g hp (.inr ⟨xs, vs, rfl, q, rs⟩)
theorem rdE_bind {k : Res × EnvQ → RE} {Q : VK} {Q' : VK} (h : rdE X W L (fun ρ => (fa ρ).bind k) σ H Q)
    (hk : ∀ ll S ρ S1 v H1 r ρ1, RR X.K L ll S1 ρ1 σ H1 → Tr S ρ σ H S1 ρ1 σ H1 → ResR X.K H S1 ρ1 σ H1 r v → GoE X W L ll S ρ σ H (k (r, ρ1)) Q → Q' v H1) : rdE X W L fa σ H Q' := by
  obtain ⟨ll, S, ρ, rr, g⟩ := h
  refine ⟨ll, S, ρ, rr, ?_⟩
  dsimp only at g
  cases e1 : fa ρ with
  | stuck => rw [e1] at g; exact g
  | exc c ρ' => rw [e1] at g; exact g
  | ok a =>
    obtain ⟨r, ρ1⟩ := a
    rw [e1] at g
    exact fun S1 v H1 r1 t1 q1 => hk ll S ρ S1 v H1 r ρ1 r1 t1 q1 g
/-- the second step -/
theorem go_bind {k : Res × EnvQ → RE} {Q' : VK} (r1 : RR X.K L ll S1 ρ1 σ H1) (t1 : Tr S ρ σ H S1 ρ1 σ H1) (g : GoE X W L ll S ρ σ H ((fb ρ1).bind k) Q)
    (hk : ∀ S2 u H2 r ρ2, RR X.K L ll S2 ρ2 σ H2 → Tr S1 ρ1 σ H1 S2 ρ2 σ H2 → ResR X.K H S2 ρ2 σ H2 r u → GoE X W L ll S ρ σ H (k (r, ρ2)) Q → Q' u H2) : rdE X W L fb σ H1 Q' := by
  refine ⟨ll, S1, ρ1, r1, ?_⟩
  cases e1 : fb ρ1 with
  | stuck => rw [e1] at g; exact g
  | exc c ρ' =>
    rw [e1] at g
    exact GoX.back g t1
  | ok a =>
    obtain ⟨r, ρ2⟩ := a
    rw [e1] at g
    exact fun S2 v H2 r2 t2 q2 => hk S2 v H2 r ρ2 r2 t2 (q2.back fun a ha => t1.back ha) g
theorem PrimQ.notal {K : PySem.W.Frag} {p : P2} (h : ∀ dx dy r, p dx dy = some r → ∀ i, r ≠ .al i) : True := trivial
def NoAl2 (p : P2) : Prop := ∀ dx dy i, p dx dy ≠ some (.al i)
def NoAl1 (p : P1) : Prop := ∀ dx i, p dx ≠ some (.al i)
def NoAlN (p : PN) : Prop := ∀ ds i, p ds ≠ some (.al i)
theorem pV_na (p) : NoAl2 (pV p) := fun dx dy i => by unfold pV; cases p dx dy <;> simp
theorem pB_na (p) : NoAl2 (pB p) := fun dx dy i => by unfold pB; cases p dx dy <;> simp
theorem pO_na (p) : NoAl2 (pO p) := fun dx dy i => by unfold pO; cases p dx dy <;> simp
theorem or_na {p q : P2} (h : NoAl2 p) (g : NoAl2 q) : NoAl2 (p.or q) := fun dx dy i e => by
  unfold P2.or at e
  cases e1 : p dx dy with
  | some r =>
    rw [e1] at e
    exact h dx dy i (e1.trans (by simpa using e))
  | none =>
    rw [e1] at e
    exact g dx dy i (by simpa using e)
theorem kP2_go {p : P2} (na : NoAl2 p) {x y : Res} {v u : V} {H0 H0' : Hp} (r2 : RR X.K L ll S2 ρ2 σ H2) (t : Tr S ρ σ H S2 ρ2 σ H2) (hx : ResR X.K H0 S2 ρ2 σ H2 x v) (hy : ResR X.K H0' S2 ρ2 σ H2 y u)
    (g : GoE X W L ll S ρ σ H (kP2 p x y ρ2) Q) : rP2 X.K p v u H2 Q := by
  unfold kP2 at g
  obtain ⟨dx, ex, g⟩ := opt_some (Pr := fun r => GoE X W L ll S ρ σ H r Q) g (fun z => z)
  obtain ⟨dy, ey, g⟩ := opt_some (Pr := fun r => GoE X W L ll S ρ σ H r Q) g (fun z => z)
  obtain ⟨r, er, g⟩ := opt_some (Pr := fun r => GoE X W L ll S ρ σ H r Q) g (fun z => z)
  exact ⟨S2, dx, dy, r, r2.sub, hx.opd r2 ex, hy.opd r2 ey, er, GoE.prim r2 t g fun i z => na dx dy i (z ▸ er)⟩

/-! ### the rules -/
theorem v_name (i : Nat) {x : Str} (hN : X.N[i]? = some x := by rfl) (hv : Vis X.env.scope x := by first | exact Or.inl rfl | exact Or.inr (Or.inl rfl) | exact Or.inr (Or.inr rfl)) (hd : (x == ("__debug__" : Str)) = false := by decide)
    (hcd : (x == ("__classdict__" : Str)) = false := by decide) : VE X W L (.Name x pos) (eName i) := by
  refine ⟨PE.weak (pe_var hN hv hd hcd) fun σ H Q h => ?_⟩
  obtain ⟨ll, S, ρ, rr, g⟩ := h
  unfold eName at g
  split at g
  · rename_i d e
    obtain ⟨v, e1, rp⟩ := rr.sh i d e
    exact ⟨v, e1, g S v H rr Tr.refl rp⟩
  · rename_i l d e
    obtain ⟨a, e1, n, ob, _⟩ := rr.ow i l d e
    exact ⟨.ref a, e1, g S _ H rr Tr.refl e1⟩
  · exact g.elim
theorem RR.shareSlot {K : PySem.W.Frag} {i : Nat} {d : D} {a : Addr} (rr : RR K L ll S ρ σ H) (e : ρ[i]? = some (.ow false d)) (e1 : σ[i]? = some (some (.ref a))) (n : S a = none) (ob : ObR K S H d a) : RR K L ll (setS S H a) (ρ.set i (.sh d)) σ H := by
  have hi : i < ρ.length := (List.getElem?_eq_some_iff.mp e).1
  have ob2 : Rep K (setS S H a) d (.ref a) := ob.freeze (Sub.of_ex (setS_ex n)) setS_same
  have old : ∀ (j : Nat) s, (ρ.set i (.sh d))[j]? = some s → j ≠ i → ρ[j]? = some s := fun j s h hj => by rwa [List.getElem?_set_ne (Ne.symm hj)] at h
  have noi : ∀ l' d', (ρ.set i (.sh d))[i]? = some (.ow l' d') → False := fun l' d' h => by
    rw [List.getElem?_set_self hi] at h; cases h
  refine ⟨by rw [List.length_set]; exact rr.len, fun b u h nl => ?_, fun b h => ?_, rr.lo, fun b o u h => ?_, fun j d' h => ?_, fun j l d' h => ?_, fun j b h => ?_, fun j k l m d1 d2 b h1 h2 h3 h4 => ?_⟩
  · by_cases z : b = a
    · subst z; rw [setS_same] at h; exact h
    · rw [setS_ne z] at h; exact rr.ex b u h nl
  · obtain ⟨ob', u, nf, nt, q, eh⟩ := rr.lk b h
    exact ⟨ob', u, nf, nt, by rw [setS_ne (ne_of_none q n)]; exact q, eh⟩
  · by_cases z : b = a
    · subst z; rw [setS_same] at h
      obtain ⟨o', q, nf⟩ := ob.some
      rw [q] at h; cases h
      exact absurd rfl (nf _ _)
    · rw [setS_ne z] at h; exact rr.nf b o u h
  · by_cases z : j = i
    · subst z
      rw [List.getElem?_set_self hi] at h
      cases h
      exact ⟨_, e1, ob2⟩
    · obtain ⟨v, q, rp⟩ := rr.sh j d' (old j _ h z)
      exact ⟨v, q, rp.mono (Sub.of_ex (setS_ex n))⟩
  · by_cases z : j = i
    · subst z; exact (noi _ _ h).elim
    · have h0 := old j _ h z
      obtain ⟨b, q, nb, ob', k⟩ := rr.ow j l d' h0
      refine ⟨b, q, ?_, ob'.mono (Sub.of_ex (setS_ex n)) rfl, k⟩
      have : b ≠ a := fun y => by
        subst y
        exact z (rr.sep j i _ _ _ _ b h0 e q e1)
      rw [setS_ne this]; exact nb
  · obtain ⟨d', h0⟩ := rr.ln j b h
    have z : j ≠ i := fun z => by subst z; rw [e] at h0; cases h0
    exact ⟨d', by rw [List.getElem?_set_ne (Ne.symm z)]; exact h0⟩
  · have z1 : j ≠ i := fun z => by subst z; exact noi _ _ h1
    have z2 : k ≠ i := fun z => by subst z; exact noi _ _ h2
    exact rr.sep j k l m d1 d2 b (old j _ h1 z1) (old k _ h2 z2) h3 h4
theorem Tr.shareSlot {i : Nat} {d : D} {a : Addr} (e : ρ[i]? = some (.ow false d)) (e1 : σ[i]? = some (some (.ref a))) (n : S a = none) : Tr S ρ σ H (setS S H a) (ρ.set i (.sh d)) σ H where
  ex := setS_ex n
  fr := fun _ _ e _ => e
  nw := fun b h => by
    obtain ⟨j, l, d', h1, h2⟩ := h
    by_cases z : j = i
    · subst z
      rw [List.getElem?_set_self (List.getElem?_eq_some_iff.mp e).1] at h1; cases h1
    · rw [List.getElem?_set_ne (Ne.symm z)] at h1
      exact .inl ⟨j, l, d', h1, h2⟩
  ns := fun b h => by
    by_cases z : b = a
    · subst z; exact .inr (.inl ⟨i, _, _, e, e1⟩)
    · rw [setS_ne z] at h; exact .inl h
  dm := fun _ h => h
theorem v_share (i : Nat) {x : Str} (hN : X.N[i]? = some x := by rfl) (hv : Vis X.env.scope x := by first | exact Or.inl rfl | exact Or.inr (Or.inl rfl) | exact Or.inr (Or.inr rfl)) (hd : (x == ("__debug__" : Str)) = false := by decide)
    (hcd : (x == ("__classdict__" : Str)) = false := by decide) : VE X W L (.Name x pos) (eShare i) := by
  refine ⟨PE.weak (pe_var hN hv hd hcd) fun σ H Q h => ?_⟩
  obtain ⟨ll, S, ρ, rr, g⟩ := h
  unfold eShare at g
  split at g
  · rename_i d e
    obtain ⟨v, e1, rp⟩ := rr.sh i d e
    exact ⟨v, e1, g S v H rr Tr.refl rp⟩
  · rename_i d e
    obtain ⟨a, e1, n, ob, _⟩ := rr.ow i false d e
    exact ⟨.ref a, e1, g _ _ H (rr.shareSlot e e1 n ob) (Tr.shareSlot e e1 n) (ob.freeze (Sub.of_ex (setS_ex n)) setS_same)⟩
  · exact g.elim
theorem v_con {v : V} {d : D} (h : PE X e (tC v)) (hr : ∀ S, Rep X.K S d v) : VE X W L e (eC d) := by
  refine ⟨PE.weak h fun σ H Q h => ?_⟩
  obtain ⟨ll, S, ρ, rr, g⟩ := h
  exact g S v H rr Tr.refl (hr S)
theorem v_int {i : Int} {j : Nat} : VE X W L (.Constant (.int i) j pos) (eC (.int i)) := v_con pe_int fun _ => .int i
theorem v_bl {i : Bool} {j : Nat} : VE X W L (.Constant (.bool i) j pos) (eC (.bl i)) := v_con pe_bl fun _ => .bl i
theorem v_non {j : Nat} : VE X W L (.Constant .none j pos) (eC .non) := v_con pe_non fun _ => .non
/-- a written text as data -/
def dS (s : String) : D := .str (s.toList.map Char.toNat)
theorem v_str {s : String} {j : Nat} : VE X W L (.Constant (.str (Str.ofString s)) j pos) (eC (dS s)) := v_con pe_str fun _ => by
  rw [Str.ofString_eq_toList]
  exact .str _
theorem v_bin {op : Operator} {p : P2} (ho : OpR X (binaryOp op) (rP2 X.K p)) (na : NoAl2 p) (ha : VE X W L a fa) (hb : VE X W L b fb) : VE X W L (.BinOp a op b pos) (eBin p fa fb) := by
  refine ⟨PE.weak (pe_op ho ha.pe hb.pe) fun σ H Q h => ?_⟩
  refine rdE_bind h fun ll S ρ S1 v H1 r ρ1 r1 t1 q1 g => go_bind r1 t1 g fun S2 u H2 r' ρ2 r2 t2 q2 g => ?_
  exact kP2_go na r2 (t1.trans t2) (q1.shift t2) q2 g
theorem v_cmp {op : CmpOp} {p : P2} (ho : OpR X (compareOp op) (rP2 X.K p)) (na : NoAl2 p) (ha : VE X W L a fa) (hb : VE X W L b fb) (hm : behindInMarks op b = false := by first | exact nomark _ | rfl) : VE X W L (.Compare a [op] [b] pos) (eBin p fa fb) := by
  refine ⟨PE.weak (pe_cmpR ho ha.pe hb.pe hm) fun σ H Q h => ?_⟩
  refine rdE_bind h fun ll S ρ S1 v H1 r ρ1 r1 t1 q1 g => go_bind r1 t1 g fun S2 u H2 r' ρ2 r2 t2 q2 g => ?_
  exact kP2_go na r2 (t1.trans t2) (q1.shift t2) q2 g
/-- from a truth's reading to a test's -/
theorem rd_val {Q : Bool → Hp → Prop} (h : rdB X W L (bVal fa) σ H Q) : rdE X W L fa σ H fun x H' => ∃ k, x = .bl k ∧ Q k H' := by
  obtain ⟨ll, S, ρ, rr, g⟩ := h
  refine ⟨ll, S, ρ, rr, ?_⟩
  unfold bVal at g
  cases e1 : fa ρ with
  | stuck => rw [e1] at g; exact g
  | exc c ρ' => rw [e1] at g; exact g
  | ok a =>
    obtain ⟨r, ρ1⟩ := a
    rw [e1] at g
    intro S1 v H1 r1 t1 q1
    unfold R.bind at g
    dsimp only at g
    split at g
    · rename_i b e
      exact ⟨b, (q1.opd r1 e).bl, g S1 H1 r1 t1⟩
    · exact g.elim
theorem vt_cmp {op : CmpOp} {p : P2} (ho : OpR X (compareOp op) (rP2 X.K p)) (na : NoAl2 p) (ha : VE X W L a fa) (hb : VE X W L b fb) (hm : behindInMarks op b = false := by first | exact nomark _ | rfl) : VT X W L (.Compare a [op] [b] pos) (bVal (eBin p fa fb)) := by
  refine ⟨PT.weak (pt_cmpR ho ha.pe hb.pe hm) fun σ H Q h => ?_⟩
  have h := rd_val h
  show tOp (rP2 X.K p) (rdE X W L fa) (rdE X W L fb) σ H _
  refine rdE_bind h fun ll S ρ S1 v H1 r ρ1 r1 t1 q1 g => go_bind r1 t1 g fun S2 u H2 r' ρ2 r2 t2 q2 g => ?_
  exact kP2_go na r2 (t1.trans t2) (q1.shift t2) q2 g
theorem vt_val (he : VE X W L e fa) (hw : ∀ whole, isTrue e X.env whole = (do let v ← whole; standAt e.pos; holding [v] (truthy v)) := by intro _; rfl) : VT X W L e (bVal fa) := by
  refine ⟨PT.weak (pt_val he.pe hw) fun σ H Q h => ?_⟩
  exact rd_val h
theorem rdB_bind {k : Bool × EnvQ → RB} {Q Q' : Bool → Hp → Prop} (h : rdB X W L (fun ρ => (ca ρ).bind k) σ H Q)
    (hk : ∀ ll S ρ S1 b H1 ρ1, RR X.K L ll S1 ρ1 σ H1 → Tr S ρ σ H S1 ρ1 σ H1 → GoB X W L ll S ρ σ H (k (b, ρ1)) Q → Q' b H1) : rdB X W L ca σ H Q' := by
  obtain ⟨ll, S, ρ, rr, g⟩ := h
  refine ⟨ll, S, ρ, rr, ?_⟩
  dsimp only at g
  cases e1 : ca ρ with
  | stuck => rw [e1] at g; exact g
  | exc c ρ' => rw [e1] at g; exact g
  | ok a =>
    obtain ⟨b, ρ1⟩ := a
    rw [e1] at g
    exact fun S1 H1 r1 t1 => hk ll S ρ S1 b H1 ρ1 r1 t1 g
theorem GoB.back {r : RB} {Q : Bool → Hp → Prop} (t : Tr S ρ σ H S1 ρ1 σ H1) (g : GoB X W L ll S ρ σ H r Q) : GoB X W L ll S1 ρ1 σ H1 r Q := by
  cases r with
  | stuck => exact g
  | exc c ρ' => exact GoX.back g t
  | ok a =>
    obtain ⟨b, ρ2⟩ := a
    exact fun S2 H2 r2 t2 => g S2 H2 r2 (t.trans t2)
theorem GoE.back {r : RE} (t : Tr S ρ σ H S1 ρ1 σ H1) (g : GoE X W L ll S ρ σ H r Q) : GoE X W L ll S1 ρ1 σ H1 r Q := by
  cases r with
  | stuck => exact g
  | exc c ρ' => exact GoX.back g t
  | ok a =>
    obtain ⟨b, ρ2⟩ := a
    exact fun S2 v H2 r2 t2 q => g S2 v H2 r2 (t.trans t2) (q.back fun _ z => t.back z)
theorem vt_not (ha : VT X W L a ca) : VT X W L (.UnaryOp .Not a pos) (bNot ca) := by
  refine ⟨PT.weak (pt_not ha.pt) fun σ H Q h => ?_⟩
  exact rdB_bind h fun ll S ρ S1 b H1 ρ1 r1 t1 g => g S1 H1 r1 t1
theorem vw_and1 (ha : VT X W L a ca) : VW X W L (.BoolOp .And [a] pos) ca := ⟨pw_and1 ha.pt⟩
theorem vw_or1 (ha : VT X W L a ca) : VW X W L (.BoolOp .Or [a] pos) ca := ⟨pw_or1 ha.pt⟩
theorem vw_and {rest : List Expr} (ha : VT X W L a ca) (hb : VW X W L (.BoolOp .And (b :: rest) pos) cb) : VW X W L (.BoolOp .And (a :: b :: rest) pos) (bAnd ca cb) := by
  refine ⟨PW.weak (pw_and ha.pt hb.pw) fun σ H Q h => ?_⟩
  refine rdB_bind h fun ll S ρ S1 b H1 ρ1 r1 t1 g => ?_
  cases b with
  | true => exact iteT ⟨ll, S1, ρ1, r1, GoB.back t1 g⟩
  | false => exact iteF (g S1 H1 r1 t1)
theorem vw_or {rest : List Expr} (ha : VT X W L a ca) (hb : VW X W L (.BoolOp .Or (b :: rest) pos) cb) : VW X W L (.BoolOp .Or (a :: b :: rest) pos) (bOr ca cb) := by
  refine ⟨PW.weak (pw_or ha.pt hb.pw) fun σ H Q h => ?_⟩
  refine rdB_bind h fun ll S ρ S1 b H1 ρ1 r1 t1 g => ?_
  cases b with
  | true => exact iteT (g S1 H1 r1 t1)
  | false => exact iteF ⟨ll, S1, ρ1, r1, GoB.back t1 g⟩
theorem vt_w (h : VW X W L e ca) : VT X W L e ca := ⟨h.pw.pt⟩
theorem rdEB_bind {k : Bool × EnvQ → RE} {Q : VK} {Q' : Bool → Hp → Prop} (h : rdE X W L (fun ρ => (ca ρ).bind k) σ H Q)
    (hk : ∀ ll S ρ S1 b H1 ρ1, RR X.K L ll S1 ρ1 σ H1 → Tr S ρ σ H S1 ρ1 σ H1 → GoE X W L ll S ρ σ H (k (b, ρ1)) Q → Q' b H1) : rdB X W L ca σ H Q' := by
  obtain ⟨ll, S, ρ, rr, g⟩ := h
  refine ⟨ll, S, ρ, rr, ?_⟩
  dsimp only at g
  cases e1 : ca ρ with
  | stuck => rw [e1] at g; exact g
  | exc c ρ' => rw [e1] at g; exact g
  | ok a =>
    obtain ⟨b, ρ1⟩ := a
    rw [e1] at g
    exact fun S1 H1 r1 t1 => hk ll S ρ S1 b H1 ρ1 r1 t1 g
theorem v_if (hc : VT X W L c ca) (ha : VE X W L a fa) (hb : VE X W L b fb) : VE X W L (.IfExp c a b pos) (eIf ca fa fb) := by
  refine ⟨PE.weak (pe_ifExp hc.pt ha.pe hb.pe) fun σ H Q h => ?_⟩
  refine rdEB_bind h fun ll S ρ S1 b H1 ρ1 r1 t1 g => ?_
  cases b with
  | true => exact iteT ⟨ll, S1, ρ1, r1, GoE.back t1 g⟩
  | false => exact iteF ⟨ll, S1, ρ1, r1, GoE.back t1 g⟩
theorem v_one {op : PySem.BoolOp} (ha : VE X W L a fa) : VE X W L (.BoolOp op [a] pos) fa := ⟨pe_one ha.pe⟩
theorem v_and {rest : List Expr} (ha : VE X W L a fa) (hb : VE X W L (.BoolOp .And (b :: rest) pos) fb) : VE X W L (.BoolOp .And (a :: b :: rest) pos) (eAnd fa fb) := by
  refine ⟨PE.weak (pe_and ha.pe hb.pe) fun σ H Q h => ?_⟩
  refine rd_val (rdEB_bind h fun ll S ρ S1 b H1 ρ1 r1 t1 g => ?_)
  cases b with
  | true => exact iteT ⟨ll, S1, ρ1, r1, GoE.back t1 g⟩
  | false => exact iteF (g S1 _ H1 r1 t1 (.bl false))
theorem v_or {rest : List Expr} (ha : VE X W L a fa) (hb : VE X W L (.BoolOp .Or (b :: rest) pos) fb) : VE X W L (.BoolOp .Or (a :: b :: rest) pos) (eOr fa fb) := by
  refine ⟨PE.weak (pe_or ha.pe hb.pe) fun σ H Q h => ?_⟩
  refine rd_val (rdEB_bind h fun ll S ρ S1 b H1 ρ1 r1 t1 g => ?_)
  cases b with
  | true => exact iteT (g S1 _ H1 r1 t1 (.bl true))
  | false => exact iteF ⟨ll, S1, ρ1, r1, GoE.back t1 g⟩
theorem v_not (ha : VE X W L a fa) : VE X W L (.UnaryOp .Not a pos) (eNot fa) := by
  refine ⟨PE.weak (pe_not ha.pe) fun σ H Q h => ?_⟩
  exact rd_val (rdEB_bind h fun ll S ρ S1 b H1 ρ1 r1 t1 g => g S1 _ H1 r1 t1 (.bl (!b)))
theorem v_un {op : UnaryOp} {p : P1} (ho : UnR X (unaryOp op) (rP1 X.K p)) (na : NoAl1 p) (ha : VE X W L a fa) : VE X W L (.UnaryOp op a pos) (eUn p fa) := by
  refine ⟨PE.weak (pe_un ho ha.pe) fun σ H Q h => ?_⟩
  refine rdE_bind h fun ll S ρ S1 v H1 r ρ1 r1 t1 q1 g => ?_
  obtain ⟨dx, ex, g⟩ := opt_some (Pr := fun r => GoE X W L ll S ρ σ H r Q) g (fun z => z)
  obtain ⟨r, er, g⟩ := opt_some (Pr := fun r => GoE X W L ll S ρ σ H r Q) g (fun z => z)
  exact ⟨S1, dx, r, r1.sub, q1.opd r1 ex, er, GoE.prim r1 t1 g fun i z => na dx i (z ▸ er)⟩
theorem v_ix {p : P2} (ho : IxR X (rP2 X.K p)) (na : NoAl2 p) (ha : VE X W L a fa) (hb : VE X W L b fb) (hs : PlainIx b := by exact fun _ _ => rfl) : VE X W L (.Subscript a b pos) (eBin p fa fb) := by
  refine ⟨PE.weak (pe_ix ho ha.pe hb.pe hs) fun σ H Q h => ?_⟩
  refine rdE_bind h fun ll S ρ S1 v H1 r ρ1 r1 t1 q1 g => go_bind r1 t1 g fun S2 u H2 r' ρ2 r2 t2 q2 g => ?_
  exact kP2_go na r2 (t1.trans t2) (q1.shift t2) q2 g
/-! arguments -/
theorem va_nil : VA X W L [] lNil := by
  refine ⟨PA.weak pa_nil fun σ H Q h => ?_⟩
  obtain ⟨ll, S, ρ, rr, g⟩ := h
  exact g S [] H rr Tr.refl .nil
theorem ResRs.shift {K : PySem.W.Frag} {H0 : Hp} {rs : List Res} {vs : List V} (h : ResRs K H0 S ρ σ H rs vs) (t : Tr S ρ σ H S1 ρ1 σ H1) : ResRs K H0 S1 ρ1 σ H1 rs vs := by
  induction h with
  | nil => exact .nil
  | cons r _ ih => exact .cons (r.shift t) ih
theorem ResRs.back {K : PySem.W.Frag} {H0 : Hp} {rs : List Res} {vs : List V} (h : ResRs K H0 S ρ σ H rs vs) (f : ∀ a, H0 a = none → H2 a = none) : ResRs K H2 S ρ σ H rs vs := by
  induction h with
  | nil => exact .nil
  | cons r _ ih => exact .cons (r.back f) ih
theorem va_cons {es : List Expr} (ha : VE X W L e fa) (hr : VA X W L es fl) (hs : starEach (e :: es) X.env = (false, eval e X.env) :: starEach es X.env := by rfl) : VA X W L (e :: es) (lCons fa fl) := by
  refine ⟨PA.weak (pa_cons ha.pe hr.pa hs) fun σ H Q h => ?_⟩
  obtain ⟨ll, S, ρ, rr, g⟩ := h
  refine ⟨ll, S, ρ, rr, ?_⟩
  unfold lCons at g
  cases e1 : fa ρ with
  | stuck => rw [e1] at g; exact g
  | exc c ρ' => rw [e1] at g; exact g
  | ok a =>
    obtain ⟨r, ρ1⟩ := a
    rw [e1] at g
    intro S1 v H1 r1 t1 q1
    refine ⟨ll, S1, ρ1, r1, ?_⟩
    unfold R.bind at g
    dsimp only at g
    cases e2 : fl ρ1 with
    | stuck => rw [e2] at g; exact g
    | exc c ρ' =>
      rw [e2] at g
      exact GoX.back g t1
    | ok b =>
      obtain ⟨rs, ρ2⟩ := b
      rw [e2] at g
      exact fun S2 vs H2 r2 t2 q2 => g S2 (v :: vs) H2 r2 (t1.trans t2) (.cons (q1.shift t2) (q2.back fun _ z => t1.back z))
/-- all that was made on the way is given up -/
theorem freezes {K : PySem.W.Frag} {rs : List Res} {vs : List V} {ds : List D} : RR K L ll S1 ρ1 σ H1 → Tr S ρ σ H S1 ρ1 σ H1 → ResRs K H S1 ρ1 σ H1 rs vs → owns rs = some ds →
    ∃ S2, RR K L ll S2 ρ1 σ H1 ∧ Tr S ρ σ H S2 ρ1 σ H1 ∧ Evl.Ex S1 S2 ∧ Reps K S2 ds vs := by
  intro r1 t1 h
  induction h generalizing ds with
  | nil =>
    intro e
    cases e
    exact ⟨S1, r1, t1, Evl.Ex.refl _, .nil⟩
  | @cons r v rs vs h hs ih =>
    intro e
    unfold owns at e
    obtain ⟨d, eo, e⟩ := Option.bind_eq_some_iff.mp e
    obtain ⟨ds', e1, e2⟩ := Option.map_eq_some_iff.mp e
    subst e2
    obtain ⟨S2, r2, t2, ex, hd⟩ := ih e1
    cases r with
    | al i => cases eo
    | sh d' =>
      cases eo
      exact ⟨S2, r2, t2, ex, .cons (Rep.mono (Sub.of_ex ex) h) hd⟩
    | ow d' =>
      cases eo
      obtain ⟨a, ev, n, ob, no, h0⟩ := h
      subst ev
      obtain ⟨o, q, nf⟩ := ob.some
      cases e3 : S2 a with
      | none =>
        refine ⟨setS S2 H1 a, r2.freeze e3 no fun o' b x q' => ?_, t2.freeze e3 (.inl h0), ex.trans (setS_ex e3), .cons (ob.freeze (Sub.of_ex (ex.trans (setS_ex e3))) setS_same) (Reps.mono (Sub.of_ex (setS_ex e3)) hd)⟩
        rw [q] at q'; cases q'
        exact nf b x
      | some u =>
        refine ⟨S2, r2, t2, ex, .cons (ob.freeze (Sub.of_ex ex) ?_) hd⟩
        by_cases ha : a ∈ ll
        · obtain ⟨ob', o', nf', _, es, eh⟩ := r2.lk a ha
          rw [q] at eh; cases eh
          exact absurd rfl (nf _ _)
        · rw [e3, r2.ex a u e3 ha]
end
end QW

end
section
/-! displays, slices, calls, comprehensions -/
namespace QW
open PySem PySem.Spec L2
section
variable {X : Cx} {W : WX} {L : Nat → Option Addr} {e a b c : Expr} {pos : Pos} {fa fb fc : CE1} {ca cb : CB} {fl : CL} {ll : LK} {S S1 S2 : Hp} {ρ ρ1 ρ2 : EnvQ} {σ : St} {H H1 H2 : Hp} {Q : VK}

theorem sz5 {n : Nat} (h : n ≤ 100000) : n ≤ sizeLine := Nat.le_trans h (by decide)
theorem rdL_bind {k : List Res × EnvQ → RE} {Q : VK} {Q' : List V → Hp → Prop} (h : rdE X W L (fun ρ => (fl ρ).bind k) σ H Q)
    (hk : ∀ ll S ρ S1 vs H1 rs ρ1, RR X.K L ll S1 ρ1 σ H1 → Tr S ρ σ H S1 ρ1 σ H1 → ResRs X.K H S1 ρ1 σ H1 rs vs → GoE X W L ll S ρ σ H (k (rs, ρ1)) Q → Q' vs H1) : rdL X W L fl σ H Q' := by
  obtain ⟨ll, S, ρ, rr, g⟩ := h
  refine ⟨ll, S, ρ, rr, ?_⟩
  dsimp only at g
  cases e1 : fl ρ with
  | stuck => rw [e1] at g; exact g
  | exc c ρ' => rw [e1] at g; exact g
  | ok a =>
    obtain ⟨r, ρ1⟩ := a
    rw [e1] at g
    exact fun S1 v H1 r1 t1 q1 => hk ll S ρ S1 v H1 r ρ1 r1 t1 q1 g
theorem ite_go {α : Prop} [Decidable α] {r : RE} (g : GoE X W L ll S ρ σ H (if α then r else .stuck) Q) : α ∧ GoE X W L ll S ρ σ H r Q := by
  by_cases h : α
  · rw [if_pos h] at g; exact ⟨h, g⟩
  · rw [if_neg h] at g; exact g.elim
theorem v_tup {es : List Expr} {x1 : Nat} (h : VA X W L es fl) : VE X W L (.Tuple es x1 pos) (eTup fl) := by
  refine ⟨PE.weak (pe_tup h.pa) fun σ H Q h => ?_⟩
  refine rdL_bind h fun ll S ρ S1 vs H1 rs ρ1 r1 t1 q1 g => ?_
  obtain ⟨ds, ed, g⟩ := opt_some (Pr := fun r => GoE X W L ll S ρ σ H r Q) g (fun z => z)
  obtain ⟨hl, g⟩ := ite_go g
  obtain ⟨S2, r2, t2, _, hd⟩ := freezes r1 t1 q1 ed
  refine ⟨by rw [← hd.length]; exact sz5 hl, fun p hp => ?_⟩
  exact GoE.newTup r2 t2 g hp (.inr ⟨ds, vs, rfl, upd_same, hd⟩)
theorem v_lst {es : List Expr} (h : VA X W L es fl) : VE X W L (.List es pos) (eLst fl) := by
  refine ⟨PE.weak (pe_lst h.pa) fun σ H Q h => ?_⟩
  refine rdL_bind h fun ll S ρ S1 vs H1 rs ρ1 r1 t1 q1 g => ?_
  obtain ⟨ds, ed, g⟩ := opt_some (Pr := fun r => GoE X W L ll S ρ σ H r Q) g (fun z => z)
  obtain ⟨hl, g⟩ := ite_go g
  obtain ⟨S2, r2, t2, _, hd⟩ := freezes r1 t1 q1 ed
  refine ⟨by rw [← hd.length]; exact sz5 hl, fun p hp => ?_⟩
  exact GoE.prim (r := .ow (.lst ds)) r2 t2 g (fun i z => nomatch z) p _ hp (.inl ⟨vs, upd_same, hd⟩)
theorem ResRs.opds {H0 : Hp} {K : PySem.W.Frag} {rs : List Res} {vs : List V} (h : ResRs K H0 S ρ σ H rs vs) (q : RR K L ll S ρ σ H) : ∀ {ds : List D}, gets ρ rs = some ds → Opds K S H ds vs := by
  induction h with
  | nil =>
    intro ds e
    cases e
    exact .nil
  | cons r _ ih =>
    intro ds e
    unfold gets at e
    obtain ⟨d, eo, e⟩ := Option.bind_eq_some_iff.mp e
    obtain ⟨ds', e1, e2⟩ := Option.map_eq_some_iff.mp e
    subst e2
    exact .cons (r.opd q eo) (ih e1)
theorem callN_go {p : PN} (na : NoAlN p) {es : List Expr} (h : rdE X W L (eCallB p fl) σ H Q) : tCB (rPN X.K p) (rdL X W L fl) σ H Q := by
  refine rdL_bind h fun ll S ρ S1 vs H1 rs ρ1 r1 t1 q1 g => ?_
  obtain ⟨ds, ed, g⟩ := opt_some (Pr := fun r => GoE X W L ll S ρ σ H r Q) g (fun z => z)
  obtain ⟨r, er, g⟩ := opt_some (Pr := fun r => GoE X W L ll S ρ σ H r Q) g (fun z => z)
  exact ⟨S1, ds, r, r1.sub, q1.opds r1 ed, er, GoE.prim r1 t1 g fun i z => na ds i (z ▸ er)⟩
theorem v_callB {x : Str} {id : String} {p : PN} {es : List Expr} {q : Pos} (hc : CallR X (.builtin id) (rPN X.K p)) (na : NoAlN p) (hg : Gl X x) (hm : X.mg x = none) (hv : bootBuiltins x = some (.builtin id)) (ha : VA X W L (e :: es) fl) (hn : x ≠ "__name__" := by decide) (hdb : (x == ("__debug__" : Str)) = false := by decide)
    (he : starEach (e :: es) X.env = (false, eval e X.env) :: starEach es X.env := by rfl) (hpl : (backTo pos (starEach es X.env)).any (·.1) = false := by rfl) : VE X W L (.Call (.Name x q) (e :: es) [] pos) (eCallB p fl) :=
  ⟨PE.weak (pe_callB hc hg hm hv ha.pa hn hdb he hpl) fun σ H Q h => callN_go (es := []) na h⟩
theorem v_callTy {x : Str} {T : String} {p : PN} {es : List Expr} {q : Pos} (hc : CallR X (.type T) (rPN X.K p)) (na : NoAlN p) (hg : Gl X x) (hm : X.mg x = none) (hv : bootBuiltins x = some (.type T)) (ha : VA X W L (e :: es) fl) (hn : x ≠ "__name__" := by decide) (hdb : (x == ("__debug__" : Str)) = false := by decide)
    (he : starEach (e :: es) X.env = (false, eval e X.env) :: starEach es X.env := by rfl) (hpl : (backTo pos (starEach es X.env)).any (·.1) = false := by rfl) : VE X W L (.Call (.Name x q) (e :: es) [] pos) (eCallB p fl) :=
  ⟨PE.weak (pe_callTy hc hg hm hv ha.pa hn hdb he hpl) fun σ H Q h => callN_go (es := []) na h⟩
/-- a method of a text, which changes nothing -/
abbrev PM := List Nat → List D → Option Res
def rMS (K : PySem.W.Frag) (p : PM) : V → List V → Hp → VK → Prop := fun x xs H Q => ∃ S t ds r, Sub S H ∧ x = .str (tS t) ∧ Opds K S H ds xs ∧ p t ds = some r ∧ PrimQ K S H r Q
def NoAlM (p : PM) : Prop := ∀ t ds i, p t ds ≠ some (.al i)
def eMtS (p : PM) (fo : CE1) (fl : CL) : CE1 := fun ρ => (fo ρ).bind fun a => match a.1 with
  | .sh (.str t) => (fl a.2).bind fun b => opt (gets b.2 b.1) fun ds => opt (p t ds) fun r => .ok (r.norm, b.2)
  | _ => .stuck
theorem goL_bind {k : List Res × EnvQ → RE} {Q' : List V → Hp → Prop} (r1 : RR X.K L ll S1 ρ1 σ H1) (t1 : Tr S ρ σ H S1 ρ1 σ H1) (g : GoE X W L ll S ρ σ H ((fl ρ1).bind k) Q)
    (hk : ∀ S2 vs H2 rs ρ2, RR X.K L ll S2 ρ2 σ H2 → Tr S1 ρ1 σ H1 S2 ρ2 σ H2 → ResRs X.K H S2 ρ2 σ H2 rs vs → GoE X W L ll S ρ σ H (k (rs, ρ2)) Q → Q' vs H2) : rdL X W L fl σ H1 Q' := by
  refine ⟨ll, S1, ρ1, r1, ?_⟩
  cases e1 : fl ρ1 with
  | stuck => rw [e1] at g; exact g
  | exc c ρ' =>
    rw [e1] at g
    exact GoX.back g t1
  | ok a =>
    obtain ⟨r, ρ2⟩ := a
    rw [e1] at g
    exact fun S2 v H2 r2 t2 q2 => hk S2 v H2 r ρ2 r2 t2 (q2.back fun a ha => t1.back ha) g
theorem mtS_go {p : PM} (na : NoAlM p) {fo : CE1} (h : rdE X W L (eMtS p fo fl) σ H Q) : tBM X.K "str" (rMS X.K p) (rdE X W L fo) (rdL X W L fl) σ H Q := by
  refine rdE_bind h fun ll S ρ S1 v H1 r ρ1 r1 t1 q1 g => ?_
  dsimp only at g
  split at g
  · rename_i t
    cases q1
    refine ⟨rfl, goL_bind r1 t1 g fun S2 vs H2 rs ρ2 r2 t2 q2 g => ?_⟩
    obtain ⟨ds, ed, g⟩ := opt_some (Pr := fun r => GoE X W L ll S ρ σ H r Q) g (fun z => z)
    obtain ⟨r, er, g⟩ := opt_some (Pr := fun r => GoE X W L ll S ρ σ H r Q) g (fun z => z)
    exact ⟨S2, t, ds, r, r2.sub, rfl, q2.opds r2 ed, er, GoE.prim r2 (t1.trans t2) g fun i z => na t ds i (z ▸ er)⟩
  · exact g.elim
theorem v_mtS {o : Expr} {es : List Expr} {name : Str} {apos : Pos} {id : String} {p : PM} {fo : CE1} (slot : Slot "str" name id) (hty : typeOf (.builtin id) = pure (.type "method_descriptor")) (hm : MtR X id (rMS X.K p)) (na : NoAlM p)
    (ho : VE X W L o fo) (ha : VA X W L (e :: es) fl)
    (hbase : attributeBase o name X.env (eval o X.env) = eval o X.env := by rfl)
    (hfew : ((backTo pos (starEach (e :: es) X.env)).all (fun x => !x.1) && (backToKw pos (keywordEach [] X.env)).all (fun x => x.1.isSome)
      && decide ((e :: es).length + ([] : List Keyword).length + (if ([] : List Keyword).isEmpty then 0 else 1) < 30)) = true := by rfl)
    (hline : (apos.endLine == pos.line) = true := by rfl) (hs : starEach (e :: es) X.env = (false, eval e X.env) :: starEach es X.env := by rfl) (hplain : (backTo pos (starEach es X.env)).any (·.1) = false := by rfl) :
    VE X W L (.Call (.Attribute o name apos) (e :: es) [] pos) (eMtS p fo fl) :=
  ⟨PE.weak (pe_bm PySem.F.plainAttrs_str slot hty hm ho.pe ha.pa hbase hfew hline hs hplain) fun σ H Q h => mtS_go na h⟩

/-! slices -/
abbrev RO := R (List Sl) (Option Int × List Sl)
abbrev CO := EnvQ → RO
def oNone : CO := fun ρ => .ok (none, ρ)
def oSome (fa : CE1) : CO := fun ρ => (fa ρ).bind fun a => match a.1.get a.2 with
  | some (.int i) => .ok (some i, a.2)
  | _ => .stuck
abbrev PS3 := D → Option Int → Option Int → Option Res
def eSlice (p : PS3) (fa : CE1) (fl fh : CO) : CE1 := fun ρ => (fa ρ).bind fun a => (fl a.2).bind fun l => (fh l.2).bind fun h => opt (a.1.get h.2) fun dx => opt (p dx l.1 h.1) fun r => .ok (r.norm, h.2)
def rPS (K : PySem.W.Frag) (p : PS3) : V → Option Int → Option Int → Hp → VK → Prop := fun x lo hi H Q => ∃ S dx r, Sub S H ∧ Opd K S H dx x ∧ p dx lo hi = some r ∧ PrimQ K S H r Q
def NoAlS (p : PS3) : Prop := ∀ d l h i, p d l h ≠ some (.al i)
def GoO (X : Cx) (W : WX) (L : Nat → Option Addr) (ll : LK) (S : Hp) (ρ : List Sl) (σ : St) (H : Hp) (r : RO) (Q : Option Int → Hp → Prop) : Prop :=
  match r with
  | .ok (b, ρ') => ∀ S' H', RR X.K L ll S' ρ' σ H' → Tr S ρ σ H S' ρ' σ H' → Q b H'
  | .exc c ρ' => GoX X W L ll S ρ σ H c ρ'
  | .stuck => False
def rdO (X : Cx) (W : WX) (L : Nat → Option Addr) (f : CO) : TO := fun σ H Q => ∃ ll S ρ, RR X.K L ll S ρ σ H ∧ GoO X W L ll S ρ σ H (f ρ) Q
structure VO (X : Cx) (W : WX) (L : Nat → Option Addr) (e : Option Expr) (f : CO) : Prop where
  po : PO X e (rdO X W L f)
theorem PO.weak {e : Option Expr} {t t' : TO} (h : PO X e t) (w : ∀ σ H Q, t' σ H Q → t σ H Q) : PO X e t' := ⟨fun pins s σ H Q I q => h.run pins s σ H Q I (w σ H Q q)⟩
theorem vo_none : VO X W L none oNone := by
  refine ⟨PO.weak po_none fun σ H Q h => ?_⟩
  obtain ⟨ll, S, ρ, rr, g⟩ := h
  exact g S H rr Tr.refl
theorem vo_some (h : VE X W L e fa) : VO X W L (some e) (oSome fa) := by
  refine ⟨PO.weak (po_some h.pe) fun σ H Q h => ?_⟩
  obtain ⟨ll, S, ρ, rr, g⟩ := h
  refine ⟨ll, S, ρ, rr, ?_⟩
  unfold oSome at g
  cases e1 : fa ρ with
  | stuck => rw [e1] at g; exact g
  | exc c ρ' => rw [e1] at g; exact g
  | ok a =>
    obtain ⟨r, ρ1⟩ := a
    rw [e1] at g
    intro S1 v H1 r1 t1 q1
    unfold R.bind at g
    dsimp only at g
    split at g
    · rename_i b e
      exact ⟨b, (q1.opd r1 e).int, g S1 H1 r1 t1⟩
    · exact g.elim
theorem goO_bind {fo : CO} {k : Option Int × EnvQ → RE} {Q' : Option Int → Hp → Prop} (r1 : RR X.K L ll S1 ρ1 σ H1) (t1 : Tr S ρ σ H S1 ρ1 σ H1) (g : GoE X W L ll S ρ σ H ((fo ρ1).bind k) Q)
    (hk : ∀ S2 H2 o ρ2, RR X.K L ll S2 ρ2 σ H2 → Tr S1 ρ1 σ H1 S2 ρ2 σ H2 → GoE X W L ll S ρ σ H (k (o, ρ2)) Q → Q' o H2) : rdO X W L fo σ H1 Q' := by
  refine ⟨ll, S1, ρ1, r1, ?_⟩
  cases e1 : fo ρ1 with
  | stuck => rw [e1] at g; exact g
  | exc c ρ' =>
    rw [e1] at g
    exact GoX.back g t1
  | ok a =>
    obtain ⟨r, ρ2⟩ := a
    rw [e1] at g
    exact fun S2 H2 r2 t2 => hk S2 H2 r ρ2 r2 t2 g
theorem v_slice {p : PS3} {lo hi : Option Expr} {f1 f2 : CO} {p2 : Pos} (hr : SlR X (rPS X.K p)) (na : NoAlS p) (he : VE X W L e fa) (hl : VO X W L lo f1) (hu : VO X W L hi f2) : VE X W L (.Subscript e (.Slice lo hi none p2) pos) (eSlice p fa f1 f2) := by
  refine ⟨PE.weak (pe_slice hr he.pe hl.po hu.po) fun σ H Q h => ?_⟩
  refine rdE_bind h fun ll S ρ S1 v H1 r ρ1 r1 t1 q1 g => goO_bind r1 t1 g fun S2 H2 o ρ2 r2 t2 g => goO_bind r2 (t1.trans t2) g fun S3 H3 o' ρ3 r3 t3 g => ?_
  obtain ⟨dx, ed, g⟩ := opt_some (Pr := fun r => GoE X W L ll S ρ σ H r Q) g (fun z => z)
  obtain ⟨r, er, g⟩ := opt_some (Pr := fun r => GoE X W L ll S ρ σ H r Q) g (fun z => z)
  exact ⟨S3, dx, r, r3.sub, (q1.shift (t2.trans t3)).opd r3 ed, er, GoE.prim r3 ((t1.trans t2).trans t3) g fun i z => na dx o o' i (z ▸ er)⟩

/-! ### defs -/
def Ar.sl : Ar → Sl
  | .sh d => .sh d
  | .ow d => .ow true d
def Ar.res : Ar → Res
  | .sh d => .sh d
  | .ow d => .ow d
abbrev RF := R (List Ar) (Ar × List Ar)
abbrev Fn := List Ar → RF
def RetF (L : Nat → Option Addr) (K : PySem.W.Frag) (H S' H' : Hp) (r : Ar) (v : V) : Prop :=
  match r with
  | .sh d => Rep K S' d v
  | .ow d => ∃ a, v = .ref a ∧ S' a = none ∧ ObR K S' H' d a ∧ H a = none
def GoF (K : PySem.W.Frag) (mg : Str → Option Value) (L : Nat → Option Addr) (ll : LK) (S : Hp) (args : List Ar) (vs : List V) (H : Hp) (r : RF) (Q : VK) (E : XK) : Prop :=
  match r with
  | .ok (r, outs) => ∀ S' v H', RR K L ll S' (outs.map Ar.sl) (vs.map some) H' → Tr S (args.map Ar.sl) (vs.map some) H S' (outs.map Ar.sl) (vs.map some) H' → RetF L K H S' H' r v → Q v H'
  | .exc c outs => ∀ S' H' C, RR K L ll S' (outs.map Ar.sl) (vs.map some) H' → Tr S (args.map Ar.sl) (vs.map some) H S' (outs.map Ar.sl) (vs.map some) H' → mg (Str.ofString c) = some (.ref C) → E (.ref C) none H'
  | .stuck => False
/-- a def's promise: F tells what it does -/
def spV (K : PySem.W.Frag) (mg : Str → Option Value) (n : Nat) (F : Fn) : Sp := fun vs H Q E => vs.length = n ∧ ∃ L ll S args, RR K L ll S (args.map Ar.sl) (vs.map some) H ∧ GoF K mg L ll S args vs H (F args) Q E
/-- the slots lent, in order -/
def lentS : List Res → List Nat
  | [] => []
  | .al i :: r => i :: lentS r
  | _ :: r => lentS r
/-- what is handed over: an own slot's object is lent, what was made on the way is given up -/
def argsOf (ρ : EnvQ) : List Res → Option (List Ar)
  | [] => some []
  | .sh d :: r => (argsOf ρ r).map (.sh d :: ·)
  | .ow d :: r => (argsOf ρ r).map (.sh d :: ·)
  | .al i :: r => match ρ[i]? with
    | some (.sh d) => (argsOf ρ r).map (.sh d :: ·)
    | some (.ow _ d) => (argsOf ρ r).map (.ow d :: ·)
    | _ => none
/-- the lent slots as they are handed back -/
def backS (ρ : EnvQ) : List Res → List Ar → EnvQ
  | .al i :: r, .ow d :: as => match ρ[i]? with
    | some (.ow l _) => backS (ρ.set i (.ow l d)) r as
    | _ => backS ρ r as
  | _ :: r, _ :: as => backS ρ r as
  | _, _ => ρ
def eCall (n : Nat) (F : Fn) (fl : CL) : CE1 := fun ρ => (fl ρ).bind fun a => if (lentS a.1).Nodup then opt (argsOf a.2 a.1) fun args => if args.length = n then match F args with
  | .ok (r, outs) => .ok (r.res, backS a.2 a.1 outs)
  | .exc c outs => .exc c (backS a.2 a.1 outs)
  | .stuck => .stuck else .stuck else .stuck
end
end QW

end
section
/-! the call of a def -/
namespace QW
open PySem PySem.Spec L2

theorem lentS_mem : ∀ {rs : List Res} {j i : Nat}, rs[j]? = some (.al i) → i ∈ lentS rs
  | [], _, _, h => by simp at h
  | r :: rs, 0, i, h => by
    simp at h
    subst h
    simp [lentS]
  | r :: rs, j + 1, i, h => by
    have := lentS_mem (rs := rs) (j := j) (by simpa using h)
    cases r <;> simp [lentS, this]
theorem lentS_inj : ∀ {rs : List Res} {j k i : Nat}, (lentS rs).Nodup → rs[j]? = some (.al i) → rs[k]? = some (.al i) → j = k
  | [], _, _, _, _, h, _ => by simp at h
  | r :: rs, 0, 0, i, _, _, _ => rfl
  | r :: rs, 0, k + 1, i, n, h, g => by
    simp at h
    subst h
    simp only [lentS, List.nodup_cons] at n
    exact absurd (lentS_mem (by simpa using g)) n.1
  | r :: rs, j + 1, 0, i, n, h, g => by
    simp at g
    subst g
    simp only [lentS, List.nodup_cons] at n
    exact absurd (lentS_mem (by simpa using h)) n.1
  | r :: rs, j + 1, k + 1, i, n, h, g => by
    have n' : (lentS rs).Nodup := by
      cases r with
      | al i => simp only [lentS, List.nodup_cons] at n; exact n.2
      | sh d => exact n
      | ow d => exact n
    exact congrArg _ (lentS_inj n' (by simpa using h) (by simpa using g))
theorem backS_get : ∀ (rs : List Res) (outs : List Ar) (ρ : EnvQ) (i : Nat), (backS ρ rs outs)[i]? = ρ[i]? ∨
    ∃ (j : Nat) (l : Bool) (d d' : D), rs[j]? = some (Res.al i) ∧ outs[j]? = some (Ar.ow d) ∧ ρ[i]? = some (Sl.ow l d') ∧ (backS ρ rs outs)[i]? = some (.ow l d)
  | [], outs, ρ, i => by
    cases outs <;> exact .inl rfl
  | r :: rs, [], ρ, i => by
    cases r <;> exact .inl rfl
  | r :: rs, o :: outs, ρ, i => by
    have skip : (backS ρ rs outs)[i]? = ρ[i]? ∨ (∃ (j : Nat) (l : Bool) (d d' : D), rs[j]? = some (Res.al i) ∧ outs[j]? = some (Ar.ow d) ∧ ρ[i]? = some (Sl.ow l d') ∧ (backS ρ rs outs)[i]? = some (.ow l d)) →
        backS ρ (r :: rs) (o :: outs) = backS ρ rs outs → (backS ρ (r :: rs) (o :: outs))[i]? = ρ[i]? ∨
        ∃ (j : Nat) (l : Bool) (d d' : D), (r :: rs)[j]? = some (Res.al i) ∧ (o :: outs)[j]? = some (Ar.ow d) ∧ ρ[i]? = some (.ow l d') ∧ (backS ρ (r :: rs) (o :: outs))[i]? = some (.ow l d) := by
      intro h e
      rw [e]
      rcases h with h | ⟨j, l, d, d', h1, h2, h3, h4⟩
      · exact .inl h
      · exact .inr ⟨j + 1, l, d, d', by simpa using h1, by simpa using h2, h3, h4⟩
    cases r with
    | sh x => exact skip (backS_get rs outs ρ i) (by cases o <;> rfl)
    | ow x => exact skip (backS_get rs outs ρ i) (by cases o <;> rfl)
    | al k =>
      cases o with
      | sh x => exact skip (backS_get rs outs ρ i) rfl
      | ow x =>
        cases e : ρ[k]? with
        | none => exact skip (backS_get rs outs ρ i) (by show (match ρ[k]? with | some (.ow l _) => backS (ρ.set k (.ow l x)) rs outs | _ => backS ρ rs outs) = _; rw [e])
        | some sl =>
          cases sl with
          | un => exact skip (backS_get rs outs ρ i) (by show (match ρ[k]? with | some (.ow l _) => backS (ρ.set k (.ow l x)) rs outs | _ => backS ρ rs outs) = _; rw [e])
          | sh y => exact skip (backS_get rs outs ρ i) (by show (match ρ[k]? with | some (.ow l _) => backS (ρ.set k (.ow l x)) rs outs | _ => backS ρ rs outs) = _; rw [e])
          | ow l y =>
            have eb : backS ρ (.al k :: rs) (.ow x :: outs) = backS (ρ.set k (.ow l x)) rs outs := by
              show (match ρ[k]? with | some (.ow l _) => backS (ρ.set k (.ow l x)) rs outs | _ => backS ρ rs outs) = _
              rw [e]
            have hk : k < ρ.length := (List.getElem?_eq_some_iff.mp e).1
            rw [eb]
            rcases backS_get rs outs (ρ.set k (.ow l x)) i with h | ⟨j, l', d, d', h1, h2, h3, h4⟩
            · by_cases z : i = k
              · subst z
                rw [List.getElem?_set_self hk] at h
                exact .inr ⟨0, l, x, y, rfl, rfl, e, h⟩
              · rw [List.getElem?_set_ne (Ne.symm z)] at h
                exact .inl h
            · by_cases z : i = k
              · subst z
                rw [List.getElem?_set_self hk] at h3
                cases h3
                exact .inr ⟨j + 1, l, d, y, by simpa using h1, by simpa using h2, e, h4⟩
              · rw [List.getElem?_set_ne (Ne.symm z)] at h3
                exact .inr ⟨j + 1, l', d, d', by simpa using h1, by simpa using h2, h3, h4⟩
theorem backS_miss : ∀ (rs : List Res) (outs : List Ar) (ρ : EnvQ) (i : Nat), i ∉ lentS rs → (backS ρ rs outs)[i]? = ρ[i]? := fun rs outs ρ i h => by
  rcases backS_get rs outs ρ i with e | ⟨j, _, _, _, h1, _⟩
  · exact e
  · exact absurd (lentS_mem h1) h
theorem backS_len : ∀ (rs : List Res) (outs : List Ar) (ρ : EnvQ), (backS ρ rs outs).length = ρ.length
  | [], outs, ρ => by cases outs <;> rfl
  | r :: rs, [], ρ => by cases r <;> rfl
  | .sh x :: rs, o :: outs, ρ => by
    have : backS ρ (.sh x :: rs) (o :: outs) = backS ρ rs outs := by cases o <;> rfl
    rw [this]; exact backS_len rs outs ρ
  | .ow x :: rs, o :: outs, ρ => by
    have : backS ρ (.ow x :: rs) (o :: outs) = backS ρ rs outs := by cases o <;> rfl
    rw [this]; exact backS_len rs outs ρ
  | .al k :: rs, .sh x :: outs, ρ => backS_len rs outs ρ
  | .al k :: rs, .ow x :: outs, ρ => by
    show (match ρ[k]? with | some (.ow l _) => backS (ρ.set k (.ow l x)) rs outs | _ => backS ρ rs outs).length = _
    split
    · rw [backS_len, List.length_set]
    · exact backS_len rs outs ρ
theorem backS_hit : ∀ (rs : List Res) (outs : List Ar) (ρ : EnvQ) (i j : Nat) (l : Bool) (d d' : D), (lentS rs).Nodup → rs[j]? = some (Res.al i) → outs[j]? = some (Ar.ow d) → ρ[i]? = some (Sl.ow l d') → (backS ρ rs outs)[i]? = some (.ow l d)
  | [], _, _, _, _, _, _, _, _, h, _, _ => by simp at h
  | r :: rs, [], _, _, _, _, _, _, _, _, h, _ => by simp at h
  | r :: rs, o :: outs, ρ, i, 0, l, d, d', n, h1, h2, h3 => by
    simp at h1 h2
    subst h1 h2
    show (match ρ[i]? with | some (.ow l _) => backS (ρ.set i (.ow l d)) rs outs | _ => backS ρ rs outs)[i]? = _
    rw [h3]
    simp only [lentS, List.nodup_cons] at n
    show (backS (ρ.set i (.ow l d)) rs outs)[i]? = _
    rw [backS_miss _ _ _ _ n.1, List.getElem?_set_self (List.getElem?_eq_some_iff.mp h3).1]
  | r :: rs, o :: outs, ρ, i, j + 1, l, d, d', n, h1, h2, h3 => by
    have h1' : rs[j]? = some (.al i) := by simpa using h1
    have h2' : outs[j]? = some (.ow d) := by simpa using h2
    cases r with
    | sh x =>
      have : backS ρ (.sh x :: rs) (o :: outs) = backS ρ rs outs := by cases o <;> rfl
      rw [this]; exact backS_hit rs outs ρ i j l d d' n h1' h2' h3
    | ow x =>
      have : backS ρ (.ow x :: rs) (o :: outs) = backS ρ rs outs := by cases o <;> rfl
      rw [this]; exact backS_hit rs outs ρ i j l d d' n h1' h2' h3
    | al k =>
      simp only [lentS, List.nodup_cons] at n
      have hki : k ≠ i := fun z => by
        subst z
        exact n.1 (lentS_mem h1')
      cases o with
      | sh x => exact backS_hit rs outs ρ i j l d d' n.2 h1' h2' h3
      | ow x =>
        show (match ρ[k]? with | some (.ow l _) => backS (ρ.set k (.ow l x)) rs outs | _ => backS ρ rs outs)[i]? = _
        split
        · refine backS_hit rs outs _ i j l d d' n.2 h1' h2' ?_
          rw [List.getElem?_set_ne hki]; exact h3
        · exact backS_hit rs outs ρ i j l d d' n.2 h1' h2' h3

/-- what is handed over -/
inductive ArgR (K : PySem.W.Frag) (S : Hp) (ρ : EnvQ) (σ : St) : List Res → List Ar → List V → Prop where
  | nil : ArgR K S ρ σ [] [] []
  | sh {r : Res} {d : D} {v : V} {rs : List Res} {as : List Ar} {vs : List V} : Rep K S d v → (∀ i l d', r = .al i → ρ[i]? ≠ some (.ow l d')) → ArgR K S ρ σ rs as vs → ArgR K S ρ σ (r :: rs) (.sh d :: as) (v :: vs)
  | ow {i : Nat} {l : Bool} {d : D} {v : V} {rs : List Res} {as : List Ar} {vs : List V} : ρ[i]? = some (.ow l d) → σ[i]? = some (some v) → ArgR K S ρ σ rs as vs → ArgR K S ρ σ (.al i :: rs) (.ow d :: as) (v :: vs)
section
variable {K : PySem.W.Frag} {L : Nat → Option Addr} {ll : LK} {S S1 S2 : Hp} {ρ ρ1 ρ2 : EnvQ} {σ : St} {H H0 H1 H2 : Hp} {rs : List Res} {as : List Ar} {vs : List V}
theorem ArgR.mono {T : Hp} (e : Sub S T) (h : ArgR K S ρ σ rs as vs) : ArgR K T ρ σ rs as vs := by
  induction h with
  | nil => exact .nil
  | sh r n _ ih => exact .sh (r.mono e) n ih
  | ow h1 h2 _ ih => exact .ow h1 h2 ih
theorem ArgR.len (h : ArgR K S ρ σ rs as vs) : as.length = vs.length := by
  induction h with
  | nil => rfl
  | sh _ _ _ ih => simp [ih]
  | ow _ _ _ ih => simp [ih]
theorem ArgR.getSh (h : ArgR K S ρ σ rs as vs) : ∀ {j : Nat} {d : D}, as[j]? = some (.sh d) → ∃ v, vs[j]? = some v ∧ Rep K S d v := by
  induction h with
  | nil => intro j d e; simp at e
  | sh r n _ ih =>
    intro j d e
    cases j with
    | zero =>
      simp at e
      subst e
      exact ⟨_, rfl, r⟩
    | succ j => exact ih (j := j) (by simpa using e)
  | ow h1 h2 _ ih =>
    intro j d e
    cases j with
    | zero => simp at e
    | succ j => exact ih (j := j) (by simpa using e)
theorem ArgR.getOw (h : ArgR K S ρ σ rs as vs) : ∀ {j : Nat} {d : D}, as[j]? = some (.ow d) → ∃ (i : Nat) (l : Bool) (v : V), rs[j]? = some (Res.al i) ∧ ρ[i]? = some (Sl.ow l d) ∧ vs[j]? = some v ∧ σ[i]? = some (some v) := by
  induction h with
  | nil => intro j d e; simp at e
  | sh r n _ ih =>
    intro j d e
    cases j with
    | zero => simp at e
    | succ j => exact ih (j := j) (by simpa using e)
  | ow h1 h2 _ ih =>
    intro j d e
    cases j with
    | zero =>
      simp at e
      subst e
      exact ⟨_, _, _, rfl, h1, rfl, h2⟩
    | succ j => exact ih (j := j) (by simpa using e)
/-- an own slot among the results is lent -/
theorem ArgR.lent (h : ArgR K S ρ σ rs as vs) : ∀ {j i : Nat} {l : Bool} {d : D}, rs[j]? = some (.al i) → ρ[i]? = some (.ow l d) → as[j]? = some (.ow d) := by
  induction h with
  | nil => intro j i l d e _; simp at e
  | sh r n _ ih =>
    intro j i l d e e2
    cases j with
    | zero =>
      simp at e
      exact absurd e2 (n i l d e)
    | succ j => exact ih (j := j) (by simpa using e) e2
  | ow h1 h2 _ ih =>
    intro j i l d e e2
    cases j with
    | zero =>
      simp at e
      subst e
      rw [h1] at e2
      cases e2
      rfl
    | succ j => exact ih (j := j) (by simpa using e) e2
theorem argR_of (r1 : RR K L ll S1 ρ1 σ H1) (t1 : Tr S ρ σ H S1 ρ1 σ H1) (h : ResRs K H S1 ρ1 σ H1 rs vs) : ∀ {as : List Ar}, argsOf ρ1 rs = some as →
    ∃ S2, RR K L ll S2 ρ1 σ H1 ∧ Tr S ρ σ H S2 ρ1 σ H1 ∧ Evl.Ex S1 S2 ∧ ArgR K S2 ρ1 σ rs as vs := by
  induction h with
  | nil =>
    intro as e
    cases e
    exact ⟨S1, r1, t1, Evl.Ex.refl _, .nil⟩
  | @cons r v rs vs h hs ih =>
    intro as e
    cases r with
    | sh d =>
      obtain ⟨as', e1, rfl⟩ := Option.map_eq_some_iff.mp (show (argsOf ρ1 rs).map (Ar.sh d :: ·) = some as from e)
      obtain ⟨S2, r2, t2, ex, q⟩ := ih e1
      exact ⟨S2, r2, t2, ex, .sh (Rep.mono (Sub.of_ex ex) h) (fun _ _ _ z => nomatch z) q⟩
    | ow d =>
      obtain ⟨as', e1, rfl⟩ := Option.map_eq_some_iff.mp (show (argsOf ρ1 rs).map (Ar.sh d :: ·) = some as from e)
      obtain ⟨S2, r2, t2, ex, q⟩ := ih e1
      obtain ⟨a, ev, n, ob, no, h0⟩ := h
      subst ev
      obtain ⟨o, qo, nf⟩ := ob.some
      cases e3 : S2 a with
      | none =>
        refine ⟨setS S2 H1 a, r2.freeze e3 no fun o' b x q' => ?_, t2.freeze e3 (.inl h0), ex.trans (setS_ex e3), .sh (ob.freeze (Sub.of_ex (ex.trans (setS_ex e3))) setS_same) (fun _ _ _ z => nomatch z) (q.mono (Sub.of_ex (setS_ex e3)))⟩
        rw [qo] at q'; cases q'
        exact nf b x
      | some u =>
        refine ⟨S2, r2, t2, ex, .sh (ob.freeze (Sub.of_ex ex) ?_) (fun _ _ _ z => nomatch z) q⟩
        by_cases ha : a ∈ ll
        · obtain ⟨ob', o', nf', _, es, eh⟩ := r2.lk a ha
          rw [qo] at eh; cases eh
          exact absurd rfl (nf _ _)
        · rw [e3, r2.ex a u e3 ha]
    | al i =>
      have e : (match ρ1[i]? with
        | some (.sh d) => (argsOf ρ1 rs).map (Ar.sh d :: ·)
        | some (.ow _ d) => (argsOf ρ1 rs).map (Ar.ow d :: ·)
        | _ => none) = some as := e
      cases e3 : ρ1[i]? with
      | none => rw [e3] at e; cases e
      | some sl =>
        rw [e3] at e
        cases sl with
        | un => cases e
        | sh d =>
          obtain ⟨as', e1, rfl⟩ := Option.map_eq_some_iff.mp e
          obtain ⟨S2, r2, t2, ex, q⟩ := ih e1
          obtain ⟨w, ew, rp⟩ := r2.sh i d e3
          have h : σ[i]? = some (some v) := h
          rw [h] at ew; cases ew
          refine ⟨S2, r2, t2, ex, .sh rp (fun j l d' z => ?_) q⟩
          cases z
          rw [e3]; simp
        | ow l d =>
          obtain ⟨as', e1, rfl⟩ := Option.map_eq_some_iff.mp e
          obtain ⟨S2, r2, t2, ex, q⟩ := ih e1
          exact ⟨S2, r2, t2, ex, .ow e3 h q⟩

theorem map_sl {as : List Ar} {j : Nat} {s : Sl} (h : (as.map Ar.sl)[j]? = some s) : ∃ a, as[j]? = some a ∧ s = a.sl := by
  rw [List.getElem?_map] at h
  obtain ⟨a, e, q⟩ := Option.map_eq_some_iff.mp h
  exact ⟨a, e, q.symm⟩
theorem map_some {vs : List V} {j : Nat} {v : V} : (vs.map some)[j]? = some (some v) ↔ vs[j]? = some v := by
  rw [List.getElem?_map]
  constructor
  · intro h
    obtain ⟨a, e, q⟩ := Option.map_eq_some_iff.mp h
    cases q
    exact e
  · intro h
    rw [h]
    rfl
/-- the lent addresses by place -/
def lentL (as : List Ar) (vs : List V) : Nat → Option Addr := fun j => match as[j]?, vs[j]? with
  | some (.ow _), some (.ref a) => some a
  | _, _ => none
theorem callee_RR (r : RR K L ll S ρ σ H) (h : ArgR K S ρ σ rs as vs) (n : (lentS rs).Nodup) : RR K (lentL as vs) ll S (as.map Ar.sl) (vs.map some) H := by
  have own : ∀ (j : Nat) (d : D), as[j]? = some (Ar.ow d) → ∃ (i : Nat) (l : Bool) (a : Addr), rs[j]? = some (Res.al i) ∧ ρ[i]? = some (.ow l d) ∧ vs[j]? = some (.ref a) ∧ σ[i]? = some (some (.ref a)) ∧ S a = none ∧ ObR K S H d a := fun j d e => by
    obtain ⟨i, l, v, h1, h2, h3, h4⟩ := h.getOw e
    obtain ⟨a, g1, g2, g3, _⟩ := r.ow i l d h2
    rw [h4] at g1; cases g1
    exact ⟨i, l, a, h1, h2, h3, h4, g2, g3⟩
  refine ⟨by simp [h.len], r.ex, r.lk, r.lo, r.nf, fun j d e => ?_, fun j l d e => ?_, fun j a e => ?_, fun j k l m d e a h1 h2 h3 h4 => ?_⟩
  · obtain ⟨x, ex, es⟩ := map_sl e
    cases x with
    | ow d' => cases es
    | sh d' =>
      cases es
      obtain ⟨v, h1, h2⟩ := h.getSh ex
      exact ⟨v, map_some.mpr h1, h2⟩
  · obtain ⟨x, ex, es⟩ := map_sl e
    cases x with
    | sh d' => cases es
    | ow d' =>
      cases es
      obtain ⟨i, l', a, _, _, h3, _, h5, h6⟩ := own j d ex
      refine ⟨a, map_some.mpr h3, h5, h6, fun _ => ?_⟩
      unfold lentL
      rw [ex, h3]
  · unfold lentL at e
    split at e
    · rename_i d b e1 e2
      exact ⟨d, by rw [List.getElem?_map, e1]; rfl⟩
    · cases e
  · obtain ⟨x, ex, es⟩ := map_sl h1
    obtain ⟨y, ey, es'⟩ := map_sl h2
    cases x with
    | sh d' => cases es
    | ow d1 =>
      cases y with
      | sh d' => cases es'
      | ow d2 =>
        obtain ⟨i, l1, a1, p1, p2, p3, p4, _⟩ := own j d1 ex
        obtain ⟨i', l2, a2, q1, q2, q3, q4, _⟩ := own k d2 ey
        rw [map_some.mp h3] at p3; cases p3
        rw [map_some.mp h4] at q3; cases q3
        have : i = i' := r.sep i i' _ _ _ _ a p2 q2 p4 q4
        subst this
        exact lentS_inj n p1 q1
theorem lent_own (r : RR K L ll S ρ σ H) (h : ArgR K S ρ σ rs as vs) {a : Addr} (o : OwnA (as.map Ar.sl) (vs.map some) a) : ∃ (i j : Nat) (l : Bool) (d : D), rs[j]? = some (Res.al i) ∧ as[j]? = some (Ar.ow d) ∧ ρ[i]? = some (.ow l d) ∧ vs[j]? = some (.ref a) ∧ σ[i]? = some (some (.ref a)) := by
  obtain ⟨j, l, d, h1, h2⟩ := o
  obtain ⟨x, ex, es⟩ := map_sl h1
  cases x with
  | sh d' => cases es
  | ow d' =>
    cases es
    obtain ⟨i, l', v, p1, p2, p3, p4⟩ := h.getOw ex
    rw [map_some.mp h2] at p3
    cases p3
    exact ⟨i, j, l', d, p1, ex, p2, map_some.mp h2, p4⟩
/-- behind the call -/
theorem caller_RR {outs : List Ar} {S' H' : Hp} (r : RR K L ll S ρ σ H) (h : ArgR K S ρ σ rs as vs) (n : (lentS rs).Nodup)
    (r' : RR K (lentL as vs) ll S' (outs.map Ar.sl) (vs.map some) H') (t : Tr S (as.map Ar.sl) (vs.map some) H S' (outs.map Ar.sl) (vs.map some) H') :
    RR K L ll S' (backS ρ rs outs) σ H' ∧ Tr S ρ σ H S' (backS ρ rs outs) σ H' := by
  -- an own slot that is lent comes back
  have hit : ∀ (i j : Nat) (l : Bool) (d : D), rs[j]? = some (Res.al i) → ρ[i]? = some (Sl.ow l d) → ∃ (a : Addr) (d' : D), σ[i]? = some (some (.ref a)) ∧ vs[j]? = some (.ref a) ∧ outs[j]? = some (Ar.ow d') ∧ (backS ρ rs outs)[i]? = some (.ow l d') ∧ S' a = none ∧ ObR K S' H' d' a := fun i j l d h1 h2 => by
    have h3 := h.lent h1 h2
    obtain ⟨i', l', v, p1, p2, p3, p4⟩ := h.getOw h3
    rw [h1] at p1; cases p1
    obtain ⟨a, g1, g2, g3, _⟩ := r.ow i l d h2
    rw [p4] at g1; cases g1
    have e : lentL as vs j = some a := by unfold lentL; rw [h3, p3]
    obtain ⟨d', e'⟩ := r'.ln j a e
    obtain ⟨x, ex, es⟩ := map_sl e'
    cases x with
    | sh _ => cases es
    | ow d2 =>
      cases es
      obtain ⟨b, q1, q2, q3, _⟩ := r'.ow j true d' e'
      have q1' := map_some.mp q1
      rw [p3] at q1'; cases q1'
      exact ⟨a, d', p4, p3, ex, backS_hit rs outs ρ i j l d' d n h1 ex h2, q2, q3⟩
  -- what becomes of a slot
  have slots : ∀ (i : Nat) (l : Bool) (d : D), (backS ρ rs outs)[i]? = some (.ow l d) → ∃ (d0 : D) (a : Addr), ρ[i]? = some (.ow l d0) ∧ σ[i]? = some (some (.ref a)) ∧ S' a = none ∧ ObR K S' H' d a := fun i l d e => by
    rcases backS_get rs outs ρ i with z | ⟨j, l', d1, d2, h1, h2, h3, h4⟩
    · rw [z] at e
      obtain ⟨a, g1, g2, g3, _⟩ := r.ow i l d e
      by_cases hm : i ∈ lentS rs
      · -- lent after all: it has come back as it was
        obtain ⟨j, hj⟩ : ∃ j : Nat, rs[j]? = some (Res.al i) := by
          clear z e g1 g2 g3 hit h n r r' t
          induction rs with
          | nil => simp [lentS] at hm
          | cons x xs ih =>
            cases x with
            | sh y => obtain ⟨j, hj⟩ := ih hm; exact ⟨j + 1, by simpa using hj⟩
            | ow y => obtain ⟨j, hj⟩ := ih hm; exact ⟨j + 1, by simpa using hj⟩
            | al k =>
              simp only [lentS, List.mem_cons] at hm
              rcases hm with rfl | hm
              · exact ⟨0, rfl⟩
              · obtain ⟨j, hj⟩ := ih hm
                exact ⟨j + 1, by simpa using hj⟩
        obtain ⟨b, d', p1, p2, p3, p4, p5, p6⟩ := hit i j l d hj e
        rw [z, e] at p4; cases p4
        rw [g1] at p1; cases p1
        exact ⟨d, a, e, g1, p5, p6⟩
      · have no : ¬ OwnA (as.map Ar.sl) (vs.map some) a := fun o => by
          obtain ⟨i', j, l', d', p1, p2, p3, p4, p5⟩ := lent_own r h o
          have : i = i' := r.sep i i' _ _ _ _ a e p3 g1 p5
          subst this
          exact hm (lentS_mem p1)
        obtain ⟨o, q, _⟩ := g3.some
        refine ⟨d, a, e, g1, ?_, g3.mono (Sub.of_ex t.ex) ((t.fr a o q no).trans q.symm)⟩
        exact Classical.byContradiction fun z => (t.ns a z).elim (fun z => z g2) fun z => z.elim no fun z => by rw [g3.nt] at z; cases z
    · obtain ⟨a, d', p1, p2, p3, p4, p5, p6⟩ := hit i j l' d2 h1 h3
      rw [h4] at p4 e
      cases e
      cases p4
      exact ⟨d2, a, h3, p1, p5, p6⟩
  have shs : ∀ (i : Nat) (d : D), (backS ρ rs outs)[i]? = some (.sh d) → ρ[i]? = some (.sh d) := fun i d e => by
    rcases backS_get rs outs ρ i with z | ⟨j, l', d1, d2, h1, h2, h3, h4⟩
    · rwa [z] at e
    · rw [h4] at e; cases e
  have owns : ∀ a, OwnA (backS ρ rs outs) σ a → OwnA ρ σ a := fun a ⟨i, l, d, h1, h2⟩ => by
    obtain ⟨d0, b, p1, p2, _⟩ := slots i l d h1
    exact ⟨i, l, d0, p1, h2⟩
  have lent : ∀ a, OwnA (as.map Ar.sl) (vs.map some) a → OwnA ρ σ a := fun a o => by
    obtain ⟨i', j, l', d', p1, p2, p3, p4, p5⟩ := lent_own r h o
    exact ⟨i', l', d', p3, p5⟩
  refine ⟨⟨by rw [backS_len]; exact r.len, r'.ex, r'.lk, r'.lo, r'.nf, fun i d e => ?_, fun i l d e => ?_, fun i a e => ?_, fun i j l m d e a h1 h2 h3 h4 => ?_⟩, ⟨t.ex, fun a o e no => t.fr a o e fun z => no (lent a z), fun a z => .inl (owns a z), fun a z => (t.ns a z).elim .inl fun z => z.elim (fun z => .inr (.inl (lent a z))) fun z => .inr (.inr z), t.dm⟩⟩
  · obtain ⟨v, p1, p2⟩ := r.sh i d (shs i d e)
    exact ⟨v, p1, p2.mono (Sub.of_ex t.ex)⟩
  · obtain ⟨d0, a, p1, p2, p3, p4⟩ := slots i l d e
    refine ⟨a, p2, p3, p4, fun z => ?_⟩
    obtain ⟨b, q1, _, _, q4⟩ := r.ow i l d0 p1
    rw [p2] at q1; cases q1
    exact q4 z
  · obtain ⟨d, p⟩ := r.ln i a e
    rcases backS_get rs outs ρ i with z | ⟨j, l', d1, d2, h1, h2, h3, h4⟩
    · exact ⟨d, z.trans p⟩
    · rw [p] at h3; cases h3
      exact ⟨d1, h4⟩
  · obtain ⟨d0, _, p1, _⟩ := slots i l d h1
    obtain ⟨d1, _, q1, _⟩ := slots j m e h2
    exact r.sep i j l m d0 d1 a p1 q1 h3 h4
end
theorem back_own {ρ : EnvQ} {σ : St} {rs : List Res} {outs : List Ar} {a : Addr} (z : OwnA (backS ρ rs outs) σ a) : OwnA ρ σ a := by
  obtain ⟨i, l, d', h1, h2⟩ := z
  rcases backS_get rs outs ρ i with z1 | ⟨j, l', d1, d2, p1, p2, p3, p4⟩
  · rw [z1] at h1
    exact ⟨i, l, d', h1, h2⟩
  · exact ⟨i, l', d2, p3, h2⟩
/-- a def of the text, by what it does -/
structure FnV (P : Program) (w : World) (K : PySem.W.Frag) (mg : Str → Option Value) (base : Heap) (k : Nat) (x : Str) (n : Nat) (F : Fn) : Prop where
  ex : ∃ (f : Addr) (fd : FuncData) (ps : List Str), FnOk P w K mg base (L2N.CX P w) k f fd ps (spV K mg n F) ∧ mg x = some (.ref f) ∧ PySem.W.keepIn K (.ref f) = true ∧ Binds K fd ps []
section
variable {X : Cx} {W : WX} {L : Nat → Option Addr} {e : Expr} {fl : CL}
theorem v_call {k j : Nat} {x : Str} {n : Nat} {F : Fn} {es : List Expr} {q pos : Pos} (f : FnV X.prog X.w X.K X.mg X.base k x n F) (hr : Room j X.A) (hk : k ≤ j) (tk : L2N.Takes X W) (hg : Gl X x) (ha : VA X W L (e :: es) fl)
    (hdb : (x == ("__debug__" : Str)) = false := by decide) (he : starEach (e :: es) X.env = (false, eval e X.env) :: starEach es X.env := by rfl) (hpl : (backTo pos (starEach es X.env)).any (·.1) = false := by rfl) :
    VE X W L (.Call (.Name x q) (e :: es) [] pos) (eCall n F fl) := by
  obtain ⟨f, fd, ps, hF, hm, hkp, hb⟩ := f.ex
  refine ⟨PE.weak (pe_callS hF (hr.mono hk) hg hm hkp hb (L2N.passAt tk) ha.pa hdb he hpl) fun σ H Q h => ?_⟩
  refine rdL_bind h fun ll S ρ S1 vs H1 rs ρ1 r1 t1 q1 g => ?_
  obtain ⟨hn, g⟩ := ite_go g
  obtain ⟨args, ea, g⟩ := opt_some (Pr := fun r => GoE X W L ll S ρ σ H r Q) g (fun z => z)
  obtain ⟨hl, g⟩ := ite_go g
  obtain ⟨S2, r2, t2, _, ar⟩ := argR_of r1 t1 q1 ea
  refine ⟨ar.len.symm.trans hl, lentL args vs, ll, S2, args, callee_RR r2 ar hn, ?_⟩
  cases ef : F args with
  | stuck => rw [ef] at g; exact g
  | exc c outs =>
    rw [ef] at g
    intro S' H' C r' t' hc
    obtain ⟨rr, tt⟩ := caller_RR r2 ar hn r' t'
    exact g S' σ H' C rr (t2.trans tt) hc
  | ok a =>
    obtain ⟨r, outs⟩ := a
    rw [ef] at g
    intro S' v H' r' t' ret
    obtain ⟨rr, tt⟩ := caller_RR r2 ar hn r' t'
    refine g S' v H' rr (t2.trans tt) ?_
    cases r with
    | sh d => exact ret
    | ow d =>
      obtain ⟨a, e1, e2, e3, e4⟩ := ret
      refine ⟨a, e1, e2, e3, fun z => ?_, t1.back e4⟩
      obtain ⟨o, eo⟩ := r2.ownH (back_own z)
      rw [e4] at eo; cases eo
end
end QW

end
section
/-! statements -/
namespace QW
open PySem PySem.Spec L2
section
variable {K : PySem.W.Frag} {L : Nat → Option Addr} {ll : LK} {S S1 S2 : Hp} {ρ ρ1 ρ2 : EnvQ} {σ : St} {H H0 H1 H2 : Hp}
/-- not lent: it may be stored anew -/
def Sl.free : Sl → Bool
  | .ow true _ => false
  | _ => true
/-- a store at a slot -/
theorem RR.store (r : RR K L ll S ρ σ H) {i : Nat} {s : Sl} {v : V} (hi : ∃ s0, ρ[i]? = some s0 ∧ s0.free = true) (hf : s.free = true) (hs : ∀ d, s = .sh d → Rep K S d v)
    (ho : ∀ l d, s = .ow l d → ∃ a, v = .ref a ∧ S a = none ∧ ObR K S H d a ∧ ¬ OwnA ρ σ a) : RR K L ll S (ρ.set i s) (σ.set i (some v)) H := by
  obtain ⟨s0, e0, f0⟩ := hi
  have hi1 : i < ρ.length := (List.getElem?_eq_some_iff.mp e0).1
  have hi2 : i < σ.length := by rw [← r.len]; exact hi1
  have old : ∀ (j : Nat), j ≠ i → (ρ.set i s)[j]? = ρ[j]? ∧ (σ.set i (some v))[j]? = σ[j]? := fun j h => ⟨List.getElem?_set_ne (Ne.symm h), List.getElem?_set_ne (Ne.symm h)⟩
  have here : (ρ.set i s)[i]? = some s ∧ (σ.set i (some v))[i]? = some (some v) := ⟨List.getElem?_set_self hi1, List.getElem?_set_self hi2⟩
  refine ⟨by simp [r.len], r.ex, r.lk, r.lo, r.nf, fun j d e => ?_, fun j l d e => ?_, fun j a e => ?_, fun j k l m d e a h1 h2 h3 h4 => ?_⟩
  · by_cases z : j = i
    · subst z
      rw [here.1] at e
      cases e
      exact ⟨v, here.2, hs d rfl⟩
    · rw [(old j z).1] at e
      obtain ⟨w, p, q⟩ := r.sh j d e
      exact ⟨w, by rw [(old j z).2]; exact p, q⟩
  · by_cases z : j = i
    · subst z
      rw [here.1] at e
      cases e
      obtain ⟨a, p1, p2, p3, _⟩ := ho l d rfl
      subst p1
      refine ⟨a, here.2, p2, p3, fun z => ?_⟩
      subst z
      exact absurd (show false = true from hf) Bool.false_ne_true
    · rw [(old j z).1] at e
      obtain ⟨w, p, q⟩ := r.ow j l d e
      exact ⟨w, by rw [(old j z).2]; exact p, q⟩
  · obtain ⟨d, p⟩ := r.ln j a e
    have z : j ≠ i := fun z => by
      subst z
      rw [e0] at p
      cases p
      exact absurd (show false = true from f0) Bool.false_ne_true
    exact ⟨d, by rw [(old j z).1]; exact p⟩
  · by_cases z1 : j = i
    · by_cases z2 : k = i
      · rw [z1, z2]
      · subst z1
        rw [here.1] at h1
        rw [here.2] at h3
        rw [(old k z2).1] at h2
        rw [(old k z2).2] at h4
        cases h1
        cases h3
        obtain ⟨b, p1, _, _, p4⟩ := ho l d rfl
        cases p1
        exact absurd ⟨k, m, e, h2, h4⟩ p4
    · by_cases z2 : k = i
      · subst z2
        rw [here.1] at h2
        rw [here.2] at h4
        rw [(old j z1).1] at h1
        rw [(old j z1).2] at h3
        cases h2
        cases h4
        obtain ⟨b, p1, _, _, p4⟩ := ho m e rfl
        cases p1
        exact absurd ⟨j, l, d, h1, h3⟩ p4
      · rw [(old j z1).1] at h1
        rw [(old j z1).2] at h3
        rw [(old k z2).1] at h2
        rw [(old k z2).2] at h4
        exact r.sep j k l m d e a h1 h2 h3 h4
theorem Tr.store {σ1 : St} (t : Tr S ρ σ H S1 ρ1 σ1 H1) {i : Nat} {s : Sl} {v : V} (hl : ρ1.length = σ1.length) (ho : ∀ l d, s = .ow l d → ∀ a, v = .ref a → H a = none) : Tr S ρ σ H S1 (ρ1.set i s) (σ1.set i (some v)) H1 where
  ex := t.ex
  fr := t.fr
  nw := fun a z => by
    obtain ⟨j, l, d, h1, h2⟩ := z
    by_cases e : j = i
    · subst e
      have h := (List.getElem?_eq_some_iff.mp h1).1
      rw [List.length_set] at h
      rw [List.getElem?_set_self h] at h1
      rw [List.getElem?_set_self (hl ▸ h)] at h2
      cases h1
      cases h2
      exact .inr (ho l d rfl a rfl)
    · rw [List.getElem?_set_ne (Ne.symm e)] at h1 h2
      exact t.nw a ⟨j, l, d, h1, h2⟩
  ns := t.ns
  dm := t.dm
/-- an own object is changed -/
theorem RR.write (r : RR K L ll S ρ σ H) {i : Nat} {l : Bool} {d d' : D} {a : Addr} {o : HO} (e : ρ[i]? = some (.ow l d)) (ea : σ[i]? = some (some (.ref a))) (ob : ObR K S (upd H a o) d' a) : RR K L ll S (ρ.set i (.ow l d')) σ (upd H a o) := by
  have hi : i < ρ.length := (List.getElem?_eq_some_iff.mp e).1
  obtain ⟨a', ea', na, ob0, la⟩ := r.ow i l d e
  rw [ea] at ea'; cases ea'
  have old : ∀ (j : Nat), j ≠ i → (ρ.set i (.ow l d'))[j]? = ρ[j]? := fun j h => List.getElem?_set_ne (Ne.symm h)
  have here : (ρ.set i (.ow l d'))[i]? = some (.ow l d') := List.getElem?_set_self hi
  have back : ∀ (j : Nat) (l' : Bool) (e' : D), (ρ.set i (.ow l d'))[j]? = some (.ow l' e') → ∃ e0 : D, ρ[j]? = some (Sl.ow l' e0) := fun j l' e' h => by
    by_cases z : j = i
    · subst z
      rw [here] at h; cases h
      exact ⟨d, e⟩
    · rw [old j z] at h
      exact ⟨e', h⟩
  obtain ⟨o0, q0, nf0⟩ := ob0.some
  refine ⟨by simp [r.len], fun b u h n => ?_, fun b h => ?_, fun b ob' h => ?_, r.nf, fun j d h => ?_, fun j l' d h => ?_, fun j b h => ?_, fun j k l m d e' b h1 h2 h3 h4 => ?_⟩
  · rw [upd_ne (ne_of_none h na)]
    exact r.ex b u h n
  · obtain ⟨ob', u, nf, nt, es, eh⟩ := r.lk b h
    exact ⟨ob', u, nf, nt, es, by rw [upd_ne (ne_of_none es na)]; exact eh⟩
  · obtain ⟨_, _, _, _, es, _⟩ := r.lk b (LK.mem h)
    obtain ⟨u, e2⟩ := r.lo b ob' h
    exact ⟨u, by rw [upd_ne (ne_of_none es na)]; exact e2⟩
  · by_cases z : j = i
    · subst z; rw [here] at h; cases h
    · rw [old j z] at h
      exact r.sh j d h
  · by_cases z : j = i
    · subst z
      rw [here] at h; cases h
      exact ⟨a, ea, na, ob, la⟩
    · rw [old j z] at h
      obtain ⟨b, p1, p2, p3, p4⟩ := r.ow j l' d h
      have nb : b ≠ a := fun y => by
        subst y
        exact z (r.sep j i _ _ _ _ b h e p1 ea)
      exact ⟨b, p1, p2, p3.mono (Sub.refl S) (upd_ne nb), p4⟩
  · obtain ⟨d0, p⟩ := r.ln j b h
    by_cases z : j = i
    · subst z
      rw [e] at p; cases p
      exact ⟨d', here⟩
    · exact ⟨d0, by rw [old j z]; exact p⟩
  · obtain ⟨e1, p1⟩ := back j l d h1
    obtain ⟨e2, p2⟩ := back k m e' h2
    exact r.sep j k l m e1 e2 b p1 p2 h3 h4
theorem Tr.write {i : Nat} {l : Bool} {d d' : D} {a : Addr} {o : HO} (t : Tr S ρ1 σ H1 S1 ρ σ H) (e : ρ[i]? = some (.ow l d)) (ea : σ[i]? = some (some (.ref a))) : Tr S ρ1 σ H1 S1 (ρ.set i (.ow l d')) σ (upd H a o) := by
  refine t.trans ⟨Evl.Ex.refl _, fun b u h n => ?_, fun b z => ?_, fun _ h => .inl h, fun b h => ?_⟩
  · have : b ≠ a := fun z => by
      subst z
      exact n ⟨i, l, d, e, ea⟩
    rw [upd_ne this]; exact h
  · obtain ⟨j, m, d0, h1, h2⟩ := z
    by_cases y : j = i
    · subst y
      exact .inl ⟨j, l, d, e, h2⟩
    · rw [List.getElem?_set_ne (Ne.symm y)] at h1
      exact .inl ⟨j, m, d0, h1, h2⟩
  · by_cases y : b = a
    · rw [y, upd_same]; simp
    · rw [upd_ne y]; exact h
end

abbrev CS := EnvQ → RS
def sNil : CS := fun ρ => .ok (.nx ρ)
def sSeq (f g : CS) : CS := fun ρ => (f ρ).bind fun x => match x with
  | .nx ρ' => g ρ'
  | .rt r ρ' => .ok (.rt r ρ')
/-- x = e: a new object is one's own -/
def setSl (i : Nat) (s : Sl) (ρ : EnvQ) : RS := match ρ[i]? with
  | some s0 => if s0.free = true then .ok (.nx (ρ.set i s)) else .stuck
  | none => .stuck
def kSet (i : Nat) (r : Res) (ρ : EnvQ) : RS := match r with
  | .sh d => setSl i (.sh d) ρ
  | .ow d => setSl i (.ow false d) ρ
  | .al _ => .stuck
def sSet (i : Nat) (fe : CE1) : CS := fun ρ => (fe ρ).bind fun a => kSet i a.1 a.2
/-- x = e: what it is, it stands still -/
def kLet (i : Nat) (r : Res) (ρ : EnvQ) : RS := match r with
  | .sh d => setSl i (.sh d) ρ
  | .ow d => setSl i (.sh d) ρ
  | .al _ => .stuck
def sLet (i : Nat) (fe : CE1) : CS := fun ρ => (fe ρ).bind fun a => kLet i a.1 a.2
def sExpr (fe : CE1) : CS := fun ρ => (fe ρ).bind fun a => .ok (.nx a.2)
def sIf (c : CB) (f g : CS) : CS := fun ρ => (c ρ).bind fun a => if a.1 = true then f a.2 else g a.2
def sRet (fe : CE1) : CS := fun ρ => (fe ρ).bind fun a => match a.1 with
  | .sh d => .ok (.rt (.sh d) a.2)
  | .ow d => .ok (.rt (.ow d) a.2)
  | .al i => match a.2[i]? with
    | some (.sh d) => .ok (.rt (.sh d) a.2)
    | some (.ow false d) => .ok (.rt (.ow d) a.2)
    | _ => .stuck
section
variable {X : Cx} {W : WX} {L : Nat → Option Addr} {e : Expr} {pos : Pos} {fe : CE1} {c : CB} {f g : CS} {ll : LK} {S S1 S2 : Hp} {ρ ρ1 ρ2 : EnvQ} {σ σ1 : St} {H H1 H2 : Hp} {D : Ends}
theorem GoS.back {r : RS} (t : Tr S ρ σ H S1 ρ1 σ1 H1) (g : GoS X W L ll S ρ σ H r D) : GoS X W L ll S1 ρ1 σ1 H1 r D := by
  cases r with
  | stuck => exact g
  | exc c ρ' => exact GoX.back g t
  | ok a =>
    cases a with
    | nx ρ' => exact fun S' σ' H' r' t' => g S' σ' H' r' (t.trans t')
    | rt r ρ' =>
      refine fun S' σ' v H' r' t' q => g S' σ' v H' r' (t.trans t') ?_
      cases r with
      | sh d => exact q
      | ow d =>
        obtain ⟨a, e1, e2, e3, e4, e5⟩ := q
        refine ⟨a, e1, e2, e3, ?_, e5⟩
        rcases e4 with e4 | e4
        · exact .inl (t.back e4)
        · exact (t.nw a e4).symm.imp (fun z => z) fun z => z
theorem vs_nil : VSs X W L [] sNil := by
  refine ⟨PSs.weak pss_nil fun σ H D h => ?_⟩
  obtain ⟨ll, S, ρ, rr, g⟩ := h
  exact g S σ H rr Tr.refl
theorem rdS_seq (h : rdS X W L (sSeq f g) D σ H) : rdS X W L f { D with nx := rdS X W L g D } σ H := by
  obtain ⟨ll, S, ρ, rr, q⟩ := h
  refine ⟨ll, S, ρ, rr, ?_⟩
  unfold sSeq at q
  cases e1 : f ρ with
  | stuck => rw [e1] at q; exact q
  | exc c ρ' => rw [e1] at q; exact q
  | ok a =>
    rw [e1] at q
    cases a with
    | nx ρ' => exact fun S' σ' H' r' t' => ⟨ll, S', ρ', r', GoS.back t' q⟩
    | rt r ρ' => exact q
theorem vs_cons {st : Stmt} {rest : List Stmt} (h1 : VS X W L st f) (h2 : VSs X W L rest g) : VSs X W L (st :: rest) (sSeq f g) :=
  ⟨PSs.weak (pss_cons h1.ps h2.pss) fun _ _ _ h => rdS_seq h⟩
theorem vs_one {st : Stmt} (h1 : VS X W L st f) : VSs X W L [st] f := ⟨pss_one h1.ps⟩
theorem rdSE_bind {k : Res × EnvQ → RS} {Q' : VK} (h : rdS X W L (fun ρ => (fe ρ).bind k) D σ H)
    (hk : ∀ ll S ρ S1 v H1 r ρ1, RR X.K L ll S1 ρ1 σ H1 → Tr S ρ σ H S1 ρ1 σ H1 → ResR X.K H S1 ρ1 σ H1 r v → GoS X W L ll S ρ σ H (k (r, ρ1)) D → Q' v H1) : rdE X W L fe σ H Q' := by
  obtain ⟨ll, S, ρ, rr, g⟩ := h
  refine ⟨ll, S, ρ, rr, ?_⟩
  dsimp only at g
  cases e1 : fe ρ with
  | stuck => rw [e1] at g; exact g
  | exc c ρ' => rw [e1] at g; exact g
  | ok a =>
    obtain ⟨r, ρ1⟩ := a
    rw [e1] at g
    exact fun S1 v H1 r1 t1 q1 => hk ll S ρ S1 v H1 r ρ1 r1 t1 q1 g
theorem setSl_go {i : Nat} {s : Sl} (g : GoS X W L ll S ρ σ H (setSl i s ρ1) D) : (∃ s0, ρ1[i]? = some s0 ∧ s0.free = true) ∧ GoS X W L ll S ρ σ H (.ok (.nx (ρ1.set i s))) D := by
  unfold setSl at g
  cases e : ρ1[i]? with
  | none => rw [e] at g; exact g.elim
  | some s0 =>
    rw [e] at g
    dsimp only at g
    by_cases h : s0.free = true
    · rw [if_pos h] at g
      exact ⟨⟨s0, rfl, h⟩, g⟩
    · rw [if_neg h] at g
      exact g.elim
theorem set_go {i : Nat} {r : Res} {v : V} (r1 : RR X.K L ll S1 ρ1 σ H1) (t1 : Tr S ρ σ H S1 ρ1 σ H1) (q1 : ResR X.K H S1 ρ1 σ H1 r v)
    (g : GoS X W L ll S ρ σ H (kSet i r ρ1) D) : D.nx (σ.set i (some v)) H1 := by
  cases r with
  | al j => exact g.elim
  | sh d =>
    obtain ⟨hs, g⟩ := setSl_go g
    exact g S1 _ H1 (r1.store hs rfl (fun d' z => by cases z; exact q1) (fun _ _ z => nomatch z)) (t1.store r1.len (fun _ _ z => nomatch z))
  | ow d =>
    obtain ⟨hs, g⟩ := setSl_go g
    obtain ⟨a, e1, e2, e3, e4, e5⟩ := q1
    subst e1
    exact g S1 _ H1 (r1.store hs rfl (fun _ z => nomatch z) (fun l d' z => by cases z; exact ⟨a, rfl, e2, e3, e4⟩)) (t1.store r1.len (fun _ _ _ b z => by cases z; exact e5))
theorem let_go {i : Nat} {r : Res} {v : V} (r1 : RR X.K L ll S1 ρ1 σ H1) (t1 : Tr S ρ σ H S1 ρ1 σ H1) (q1 : ResR X.K H S1 ρ1 σ H1 r v)
    (g : GoS X W L ll S ρ σ H (kLet i r ρ1) D) : D.nx (σ.set i (some v)) H1 := by
  cases r with
  | al j => exact g.elim
  | sh d =>
    obtain ⟨hs, g⟩ := setSl_go g
    exact g S1 _ H1 (r1.store hs rfl (fun d' z => by cases z; exact q1) (fun _ _ z => nomatch z)) (t1.store r1.len (fun _ _ z => nomatch z))
  | ow d =>
    obtain ⟨hs, g⟩ := setSl_go g
    obtain ⟨S2, r2, t2, _, hd⟩ := freezes (rs := [.ow d]) (ds := [d]) r1 t1 (.cons q1 .nil) rfl
    cases hd with
    | cons hd _ => exact g S2 _ H1 (r2.store hs rfl (fun d' z => by cases z; exact hd) (fun _ _ z => nomatch z)) (t2.store r2.len (fun _ _ z => nomatch z))
theorem vs_set {i : Nat} {x : Str} {pos' : Pos} (he : VE X W L e fe) (hN : X.N.Nodup) (hi : X.N[i]? = some x := by rfl) (hx : Loc X.env.scope x := by first | exact Or.inl rfl | exact Or.inr rfl) (hs : swapsWith e (some (.Name x pos')) pos.line X.env = pure false := by rfl) (hf : X.fn x = true ∨ X.env.scope.names.lookup x = some .local := by first | exact .inl rfl | exact .inr rfl) :
    VS X W L (.Assign [.Name x pos'] e pos) (sSet i fe) := by
  refine ⟨PS.weak (ps_set hN hi hx he.pe hs hf) fun σ H D h => ?_⟩
  exact rdSE_bind h fun ll S ρ S1 v H1 r ρ1 r1 t1 q1 g => set_go r1 t1 q1 g
theorem vs_let {i : Nat} {x : Str} {pos' : Pos} (he : VE X W L e fe) (hN : X.N.Nodup) (hi : X.N[i]? = some x := by rfl) (hx : Loc X.env.scope x := by first | exact Or.inl rfl | exact Or.inr rfl) (hs : swapsWith e (some (.Name x pos')) pos.line X.env = pure false := by rfl) (hf : X.fn x = true ∨ X.env.scope.names.lookup x = some .local := by first | exact .inl rfl | exact .inr rfl) :
    VS X W L (.Assign [.Name x pos'] e pos) (sLet i fe) := by
  refine ⟨PS.weak (ps_set hN hi hx he.pe hs hf) fun σ H D h => ?_⟩
  exact rdSE_bind h fun ll S ρ S1 v H1 r ρ1 r1 t1 q1 g => let_go r1 t1 q1 g
theorem vs_expr (he : VE X W L e fe) (hs : swapsWith e none pos.line X.env = pure false := by rfl) : VS X W L (.Expr e pos) (sExpr fe) := by
  refine ⟨PS.weak (ps_expr he.pe hs) fun σ H D h => ?_⟩
  exact rdSE_bind h fun ll S ρ S1 v H1 r ρ1 r1 t1 q1 g => g S1 σ H1 r1 t1
theorem vs_if {t : Expr} {a b : List Stmt} (hc : VT X W L t c) (ha : VSs X W L a f) (hb : VSs X W L b g) : VS X W L (.If t a b pos) (sIf c f g) := by
  refine ⟨PS.weak (ps_if hc.pt ha.pss hb.pss) fun σ H D h => ?_⟩
  obtain ⟨ll, S, ρ, rr, q⟩ := h
  refine ⟨ll, S, ρ, rr, ?_⟩
  unfold sIf at q
  cases e1 : c ρ with
  | stuck => rw [e1] at q; exact q
  | exc c ρ' => rw [e1] at q; exact q
  | ok a =>
    obtain ⟨b, ρ1⟩ := a
    rw [e1] at q
    intro S1 H1 r1 t1
    cases b with
    | true => exact iteT ⟨ll, S1, ρ1, r1, GoS.back t1 q⟩
    | false => exact iteF ⟨ll, S1, ρ1, r1, GoS.back t1 q⟩
theorem lent_owned {K : PySem.W.Frag} {i : Nat} {a : Addr} (r : RR K L ll S ρ σ H) (h : L i = some a) : ∃ d, ρ[i]? = some (.ow true d) ∧ σ[i]? = some (some (.ref a)) := by
  obtain ⟨d, p⟩ := r.ln i a h
  obtain ⟨b, q1, _, _, q4⟩ := r.ow i true d p
  rw [h] at q4
  have := q4 rfl
  cases this
  exact ⟨d, p, q1⟩
theorem vs_ret (he : VE X W L e fe) : VS X W L (.Return (some e) pos) (sRet fe) := by
  refine ⟨PS.weak (ps_ret he.pe) fun σ H D h => ?_⟩
  refine rdSE_bind h fun ll S ρ S1 v H1 r ρ1 r1 t1 q1 g => ?_
  dsimp only at g
  cases r with
  | sh d => exact g S1 σ v H1 r1 t1 q1
  | ow d =>
    obtain ⟨a, e1, e2, e3, e4, e5⟩ := q1
    refine g S1 σ v H1 r1 t1 ⟨a, e1, e2, e3, .inl e5, fun i z => ?_⟩
    obtain ⟨d', p, q⟩ := lent_owned r1 z
    exact e4 ⟨i, _, _, p, q⟩
  | al i =>
    have q1 : σ[i]? = some (some v) := q1
    dsimp only at g
    split at g
    · rename_i d e
      obtain ⟨w, p, q⟩ := r1.sh i d e
      rw [q1] at p; cases p
      exact g S1 σ v H1 r1 t1 q
    · rename_i d e
      obtain ⟨a, p, n, ob, _⟩ := r1.ow i false d e
      rw [q1] at p; cases p
      refine g S1 σ _ H1 r1 t1 ⟨a, rfl, n, ob, (t1.nw a ⟨i, _, _, e, q1⟩).symm, fun j z => ?_⟩
      obtain ⟨d', p', q'⟩ := lent_owned r1 z
      have := r1.sep i j _ _ _ _ a e p' q1 q'
      subst this
      rw [e] at p'; cases p'
    · exact g.elim
def sRetN : CS := fun ρ => .ok (.rt (.sh .non) ρ)
theorem vs_retN : VS X W L (.Return none pos) sRetN := by
  refine ⟨PS.weak ps_retN fun σ H D h => ?_⟩
  obtain ⟨ll, S, ρ, rr, g⟩ := h
  exact g S σ .non H rr Tr.refl .non
end

/-! ### a def -/
def outsOf : List Ar → EnvQ → List Ar
  | .ow _ :: as, .ow _ d :: ρ => .ow d :: outsOf as ρ
  | a :: as, _ :: ρ => a :: outsOf as ρ
  | as, _ => as
@[irreducible] def runFn (m : Nat) (body : CS) : Fn := fun args => match body (args.map Ar.sl ++ List.replicate (m - args.length) .un) with
  | .ok (.nx ρ) => .ok (.sh .non, outsOf args ρ)
  | .ok (.rt r ρ) => .ok (r, outsOf args ρ)
  | .exc c ρ => .exc c (outsOf args ρ)
  | .stuck => .stuck
theorem outsOf_get : ∀ (as : List Ar) (ρ : EnvQ) (j : Nat), (∀ d, as[j]? = some (Ar.sh d) → (outsOf as ρ)[j]? = some (Ar.sh d)) ∧ (∀ d l d', as[j]? = some (Ar.ow d) → ρ[j]? = some (Sl.ow l d') → (outsOf as ρ)[j]? = some (Ar.ow d')) ∧ (as[j]? = none → (outsOf as ρ)[j]? = none)
  | [], ρ, j => by simp [outsOf]
  | .sh d :: as, [], j => by simp [outsOf]
  | .ow d :: as, [], j => by
    refine ⟨fun d' h => by simpa [outsOf] using h, fun d' l d2 h1 h2 => by simp at h2, fun h => by simpa [outsOf] using h⟩
  | .sh d :: as, s :: ρ, j => by
    have e : outsOf (.sh d :: as) (s :: ρ) = .sh d :: outsOf as ρ := by cases s <;> rfl
    rw [e]
    cases j with
    | zero => simp
    | succ j => simpa using outsOf_get as ρ j
  | .ow d :: as, s :: ρ, j => by
    cases s with
    | ow l d' =>
      have e : outsOf (.ow d :: as) (.ow l d' :: ρ) = .ow d' :: outsOf as ρ := rfl
      rw [e]
      cases j with
      | zero =>
        refine ⟨fun _ h => by simp at h, fun d1 l1 d2 h1 h2 => ?_, fun h => by simp at h⟩
        simp at h2
        simp [h2.2]
      | succ j => simpa using outsOf_get as ρ j
    | un =>
      have e : outsOf (.ow d :: as) (.un :: ρ) = .ow d :: outsOf as ρ := rfl
      rw [e]
      cases j with
      | zero => simp
      | succ j => simpa using outsOf_get as ρ j
    | sh x =>
      have e : outsOf (.ow d :: as) (.sh x :: ρ) = .ow d :: outsOf as ρ := rfl
      rw [e]
      cases j with
      | zero => simp
      | succ j => simpa using outsOf_get as ρ j
theorem outsOf_len : ∀ (as : List Ar) (ρ : EnvQ), (outsOf as ρ).length = as.length
  | [], ρ => by simp [outsOf]
  | .sh d :: as, [] => by simp [outsOf]
  | .ow d :: as, [] => by simp [outsOf]
  | .sh d :: as, s :: ρ => by
    have e : outsOf (.sh d :: as) (s :: ρ) = .sh d :: outsOf as ρ := by cases s <;> rfl
    rw [e]; simp [outsOf_len as ρ]
  | .ow d :: as, s :: ρ => by cases s <;> simp [outsOf, outsOf_len as ρ]
section
variable {K : PySem.W.Frag} {L : Nat → Option Addr} {ll : LK} {S S1 S2 : Hp} {ρ ρ1 ρ2 : EnvQ} {σ : St} {H H0 H1 H2 : Hp} {as : List Ar} {vs : List V}
theorem start_get {N : List Str} {vs : List V} {j : Nat} {v : V} (h : (L2.start N vs)[j]? = some (some v)) : vs[j]? = some v := by
  unfold L2.start at h
  by_cases hj : j < vs.length
  · rw [List.getElem?_append_left (by simpa using hj)] at h
    exact map_some.mp h
  · rw [List.getElem?_append_right (by simpa using hj), List.getElem?_replicate] at h
    split at h <;> cases h
theorem start_of {N : List Str} {vs : List V} {j : Nat} {v : V} (h : vs[j]? = some v) : (L2.start N vs)[j]? = some (some v) := by
  unfold L2.start
  rw [List.getElem?_append_left (by simpa using (List.getElem?_eq_some_iff.mp h).1)]
  exact map_some.mpr h
theorem un_get {as : List Ar} {n j : Nat} {s : Sl} (h : (as.map Ar.sl ++ List.replicate n Sl.un)[j]? = some s) : (as.map Ar.sl)[j]? = some s ∨ s = .un := by
  by_cases hj : j < as.length
  · rw [List.getElem?_append_left (by simpa using hj)] at h
    exact .inl h
  · rw [List.getElem?_append_right (by simpa using hj), List.getElem?_replicate] at h
    split at h
    · cases h; exact .inr rfl
    · cases h
/-- the body's start -/
theorem RR.body {N : List Str} (r : RR K L ll S (as.map Ar.sl) (vs.map some) H) (hl : vs.length ≤ N.length) : RR K L ll S (as.map Ar.sl ++ List.replicate (N.length - as.length) .un) (L2.start N vs) H := by
  have len : as.length = vs.length := by have := r.len; simpa using this
  refine ⟨by unfold L2.start; simp [len], r.ex, r.lk, r.lo, r.nf, fun j d e => ?_, fun j l d e => ?_, fun j a e => ?_, fun j k l m d e a h1 h2 h3 h4 => ?_⟩
  · rcases un_get e with e | e
    · obtain ⟨v, p, q⟩ := r.sh j d e
      exact ⟨v, start_of (map_some.mp p), q⟩
    · cases e
  · rcases un_get e with e | e
    · obtain ⟨a, p, q⟩ := r.ow j l d e
      exact ⟨a, start_of (map_some.mp p), q⟩
    · cases e
  · obtain ⟨d, p⟩ := r.ln j a e
    exact ⟨d, by rw [List.getElem?_append_left (List.getElem?_eq_some_iff.mp p).1]; exact p⟩
  · rcases un_get h1 with h1 | h1
    · rcases un_get h2 with h2 | h2
      · exact r.sep j k l m d e a h1 h2 (map_some.mpr (start_get h3)) (map_some.mpr (start_get h4))
      · cases h2
    · cases h1
theorem own_body {N : List Str} {n : Nat} {a : Addr} : OwnA (as.map Ar.sl ++ List.replicate n .un) (L2.start N vs) a → OwnA (as.map Ar.sl) (vs.map some) a := fun ⟨j, l, d, h1, h2⟩ => by
  rcases un_get h1 with h1 | h1
  · exact ⟨j, l, d, h1, map_some.mpr (start_get h2)⟩
  · cases h1
/-- the body's end -/
theorem RR.outs {N : List Str} {σ' : St} {S' H' : Hp} {ρ' : EnvQ} (r : RR K L ll S (as.map Ar.sl) (vs.map some) H) (r' : RR K L ll S' ρ' σ' H') (t : Tr S (as.map Ar.sl ++ List.replicate (N.length - as.length) .un) (L2.start N vs) H S' ρ' σ' H') :
    RR K L ll S' ((outsOf as ρ').map Ar.sl) (vs.map some) H' ∧ Tr S (as.map Ar.sl) (vs.map some) H S' ((outsOf as ρ').map Ar.sl) (vs.map some) H' := by
  have len : as.length = vs.length := by have := r.len; simpa using this
  have lent : ∀ (j : Nat) (d : D), as[j]? = some (Ar.ow d) → ∃ (a : Addr) (d' : D), vs[j]? = some (.ref a) ∧ L j = some a ∧ ρ'[j]? = some (.ow true d') ∧ σ'[j]? = some (some (.ref a)) ∧ (outsOf as ρ')[j]? = some (Ar.ow d') ∧ S' a = none ∧ ObR K S' H' d' a := fun j d e => by
    have e' : (as.map Ar.sl)[j]? = some (.ow true d) := by rw [List.getElem?_map, e]; rfl
    obtain ⟨a, p1, p2, p3, p4⟩ := r.ow j true d e'
    obtain ⟨d', q1, q2⟩ := lent_owned r' (p4 rfl)
    obtain ⟨b, g1, g2, g3, _⟩ := r'.ow j true d' q1
    rw [q2] at g1; cases g1
    exact ⟨a, d', map_some.mp p1, p4 rfl, q1, q2, (outsOf_get as ρ' j).2.1 d true d' e q1, g2, g3⟩
  have outs : ∀ (j : Nat) (x : Ar), (outsOf as ρ')[j]? = some x → (∃ d, x = .sh d ∧ as[j]? = some (Ar.sh d)) ∨ ∃ d d', x = .ow d' ∧ as[j]? = some (Ar.ow d) := fun j x e => by
    cases q : as[j]? with
    | none => rw [(outsOf_get as ρ' j).2.2 q] at e; cases e
    | some y =>
      cases y with
      | sh d =>
        rw [(outsOf_get as ρ' j).1 d q] at e
        cases e
        exact .inl ⟨d, rfl, rfl⟩
      | ow d =>
        obtain ⟨a, d', _, _, _, _, p, _⟩ := lent j d q
        rw [p] at e
        cases e
        exact .inr ⟨d, d', rfl, rfl⟩
  have own : ∀ a, OwnA ((outsOf as ρ').map Ar.sl) (vs.map some) a → OwnA (as.map Ar.sl) (vs.map some) a := fun a ⟨j, l, d, h1, h2⟩ => by
    obtain ⟨x, ex, es⟩ := map_sl h1
    rcases outs j x ex with ⟨d1, rfl, q⟩ | ⟨d1, d2, rfl, q⟩
    · cases es
    · exact ⟨j, true, d1, by rw [List.getElem?_map, q]; rfl, h2⟩
  refine ⟨⟨by simp [outsOf_len, len], r'.ex, r'.lk, r'.lo, r'.nf, fun j d e => ?_, fun j l d e => ?_, fun j a e => ?_, fun j k l m d e a h1 h2 h3 h4 => ?_⟩, ⟨t.ex, fun a o e no => t.fr a o e fun z => no (own_body z), fun a z => .inl (own a z), fun a z => (t.ns a z).imp (fun z => z) fun z => z.imp (fun z => own_body z) fun z => z, t.dm⟩⟩
  · obtain ⟨x, ex, es⟩ := map_sl e
    rcases outs j x ex with ⟨d1, rfl, q⟩ | ⟨d1, d2, rfl, q⟩
    · cases es
      obtain ⟨v, p1, p2⟩ := r.sh j d (by rw [List.getElem?_map, q]; rfl)
      exact ⟨v, p1, p2.mono (Sub.of_ex t.ex)⟩
    · cases es
  · obtain ⟨x, ex, es⟩ := map_sl e
    rcases outs j x ex with ⟨d1, rfl, q⟩ | ⟨d1, d2, rfl, q⟩
    · cases es
    · cases es
      obtain ⟨a, d', p1, p2, p3, p4, p5, p6, p7⟩ := lent j d1 q
      rw [ex] at p5
      cases p5
      exact ⟨a, map_some.mpr p1, p6, p7, fun _ => p2⟩
  · obtain ⟨d, p⟩ := r.ln j a e
    obtain ⟨x, ex, es⟩ := map_sl p
    cases x with
    | sh _ => cases es
    | ow d1 =>
      obtain ⟨a', d', p1, p2, p3, p4, p5, p6, p7⟩ := lent j d1 ex
      exact ⟨d', by rw [List.getElem?_map, p5]; rfl⟩
  · obtain ⟨x, ex, es⟩ := map_sl h1
    obtain ⟨y, ey, es'⟩ := map_sl h2
    rcases outs j x ex with ⟨d1, rfl, q⟩ | ⟨d1, d2, rfl, q⟩
    · cases es
    · rcases outs k y ey with ⟨d1', rfl, q'⟩ | ⟨d1', d2', rfl, q'⟩
      · cases es'
      · exact r.sep j k true true d1 d1' a (by rw [List.getElem?_map, q]; rfl) (by rw [List.getElem?_map, q']; rfl) h3 h4
end
section
variable {P : Program} {w : World} {K : PySem.W.Frag} {mg : Str → Option Value} {base : Heap}
theorem okN {x qual : Str} {st : Stmt} {f : Addr} {fd : FuncData} {N ps : List Str} {k : Nat} {sp : Sp} (F : Fun K x qual st f fd) (Sc : FnScope N ps (defScope st)) (len : ∀ vs H Q E, sp vs H Q E → vs.length = ps.length)
    (hbody : ∀ (cdv : Value) (A : Around) (outer : List PySem.Env) (s : Shared) (H : Hp) (vs : List V) (Q : VK) (E : XK), Room k (A.deeper (PyProof.Rows.envOfC qual (defScope st) s.heap.objs.size f cdv)) → sp vs H Q E →
      ∃ t, PSs (cxOf (L2N.CX P w) P w K mg base N qual (defScope st) f cdv A outer s H E) (defBody st) t ∧ t { nx := fun _ H' => Q .non H', rt := Q } (L2.start N vs) H) : FnOk P w K mg base (L2N.CX P w) (k + 1) f fd ps sp := by
  obtain ⟨oc, od, kV, doc, pm, an, cdv, ct, osl, rfl, lk, hcd⟩ := F.ex
  exact fn_of lk hcd Sc len fun A outer s H vs Q E hr hsp => hbody cdv A outer s H vs Q E hr hsp
/-- a def does what its body's combinator does -/
theorem fn_ok {x qual : Str} {st : Stmt} {f : Addr} {fd : FuncData} {N ps : List Str} {k n : Nat} {body : CS} (F : Fun K x qual st f fd) (Sc : FnScope N ps (defScope st)) (hn : ps.length = n)
    (hbody : ∀ (cdv : Value) (A : Around) (outer : List PySem.Env) (s : Shared) (H : Hp) (E : XK) (L : Nat → Option Addr), Room k (A.deeper (PyProof.Rows.envOfC qual (defScope st) s.heap.objs.size f cdv)) →
      VSs (cxOf (L2N.CX P w) P w K mg base N qual (defScope st) f cdv A outer s H E) (fun cls d _ H => E cls d H) L (defBody st) body) : FnOk P w K mg base (L2N.CX P w) (k + 1) f fd ps (spV K mg n (runFn N.length body)) := by
  refine okN F Sc (fun vs H Q E h => h.1.trans hn.symm) (fun cdv A outer s H vs Q E hr h => ?_)
  obtain ⟨hvl, L, ll, S, args, rr, g⟩ := h
  refine ⟨_, (hbody cdv A outer s H E L hr).pss, ll, S, _, rr.body (N := N) ?_, ?_⟩
  · have := congrArg List.length Sc.pre
    rw [List.length_take] at this
    omega
  · unfold runFn at g
    cases e : body (args.map Ar.sl ++ List.replicate (N.length - args.length) .un) with
    | stuck => rw [e] at g; exact g
    | exc c ρ' =>
      rw [e] at g
      intro S' σ' H' C r' t' hc
      obtain ⟨p, q⟩ := rr.outs r' t'
      exact g S' H' C p q hc
    | ok a =>
      rw [e] at g
      cases a with
      | nx ρ' =>
        intro S' σ' H' r' t'
        obtain ⟨p, q⟩ := rr.outs r' t'
        exact g S' .non H' p q .non
      | rt r ρ' =>
        intro S' σ' v H' r' t' ret
        obtain ⟨p, q⟩ := rr.outs r' t'
        refine g S' v H' p q ?_
        cases r with
        | sh d => exact ret
        | ow d =>
          obtain ⟨a, e1, e2, e3, e4, e5⟩ := ret
          refine ⟨a, e1, e2, e3, ?_⟩
          rcases e4 with e4 | e4
          · exact e4
          · obtain ⟨j, l, d', h1, h2⟩ := own_body e4
            obtain ⟨x, ex, es⟩ := map_sl h1
            cases x with
            | sh _ => cases es
            | ow d1 =>
              cases es
              obtain ⟨b, p1, _, _, p4⟩ := rr.ow j true _ h1
              rw [h2] at p1; cases p1
              exact absurd (p4 rfl) (e5 j)
/-- a def does what its body's combinator does -/
theorem fn_v {x qual : Str} {st : Stmt} {f : Addr} {fd : FuncData} {N ps : List Str} {k n : Nat} {body : CS} (F : Fun K x qual st f fd) (Sc : FnScope N ps (defScope st)) (hn : ps.length = n) (hm : mg x = some (.ref f)) (hb : Binds K fd ps [])
    (hbody : ∀ (cdv : Value) (A : Around) (outer : List PySem.Env) (s : Shared) (H : Hp) (E : XK) (L : Nat → Option Addr), Room k (A.deeper (PyProof.Rows.envOfC qual (defScope st) s.heap.objs.size f cdv)) →
      VSs (cxOf (L2N.CX P w) P w K mg base N qual (defScope st) f cdv A outer s H E) (fun cls d _ H => E cls d H) L (defBody st) body) : FnV P w K mg base (k + 1) x n (runFn N.length body) :=
  ⟨f, fd, ps, fn_ok F Sc hn hbody, hm, F.kp, hb⟩
end
end QW

end
section
/-! what is walked: for, comprehensions; while -/
namespace QW
open PySem PySem.Spec L2

/-- what a turn hands out: what stands, or a new thing -/
def YldOk (K : PySem.W.Frag) (S H : Hp) (d : D) (x : V) (H' : Hp) : Prop := (H' = H ∧ Rep K S d x) ∨ (∃ T o, x = .ref T ∧ H T = none ∧ H' = upd H T o ∧ ObT K S H' d T) ∨ H' = H ∧ ∃ T xs vs, x = .ref T ∧ d = .tup xs ∧ H T = some (.tup vs) ∧ Reps K S xs vs
/-- the items of J, from any later state on -/
def WalkOk (K : PySem.W.Frag) (ll : LK) (S : Hp) (items : List D) (J : It) : Prop :=
  ∀ S' H', Evl.Ex S S' → Sub S' H' → (∀ a ob, ll.f a = some ob → ∃ u, H' a = some (.frz ob u)) → (∀ (i : Nat) d, items[i]? = some d → J.go i H' ∧ ∀ x H'', J.yld i H' x H'' → YldOk K S' H' d x H'') ∧ J.stop items.length H'
abbrev RI := R (List Sl) (List D × List Sl)
abbrev CI := EnvQ → RI
section
variable (X : Cx) (W : WX) (L : Nat → Option Addr)
def GoI (ll : LK) (S : Hp) (ρ : List Sl) (σ : St) (H : Hp) (r : RI) (R' : It → Hp → Prop) : Prop :=
  match r with
  | .ok (ds, ρ') => ∀ S' J H', RR X.K L ll S' ρ' σ H' → Tr S ρ σ H S' ρ' σ H' → WalkOk X.K ll S' ds J → R' J H'
  | .exc c ρ' => GoX X W L ll S ρ σ H c ρ'
  | .stuck => False
def rdI (f : CI) : TI := fun σ H R' => ∃ ll S ρ, RR X.K L ll S ρ σ H ∧ GoI X W L ll S ρ σ H (f ρ) R'
structure VI (tg e : Expr) (f : CI) : Prop where
  pi : PI X tg e (rdI X W L f)
/-- a target of a for: the item stored -/
abbrev CG := D → EnvQ → Option EnvQ
def GoG (ll : LK) (S : Hp) (ρ : List Sl) (σ : St) (H : Hp) (r : Option EnvQ) (Q : St → Hp → Prop) : Prop :=
  match r with
  | some ρ' => ∀ S' σ' H', RR X.K L ll S' ρ' σ' H' → Tr S ρ σ H S' ρ' σ' H' → Q σ' H'
  | none => False
structure VG (tg : Expr) (f : CG) : Prop where
  pg : PG X tg (fun v σ H Q => ∃ ll S ρ d, RR X.K L ll S ρ σ H ∧ Rep X.K S d v ∧ GoG X L ll S ρ σ H (f d ρ) Q)
end
section
variable {X : Cx} {W : WX} {L : Nat → Option Addr} {e tg : Expr} {pos : Pos} {fe : CE1} {ll : LK} {S S1 S2 : Hp} {ρ ρ1 ρ2 : EnvQ} {σ σ1 : St} {H H1 H2 : Hp}
theorem PI.weak {t t' : TI} (h : PI X tg e t) (w : ∀ σ H Q, t' σ H Q → t σ H Q) : PI X tg e t' := ⟨fun pins s σ H Q I q => h.run pins s σ H Q I (w σ H Q q)⟩
theorem PG.weak {t t' : TG} (h : PG X tg t) (w : ∀ v σ H Q, t' v σ H Q → t v σ H Q) : PG X tg t' := ⟨fun pins s σ H v u Q I r q => h.run pins s σ H v u Q I r (w v σ H Q q)⟩
/-- the items of a list, a tuple -/
def iSeq (fe : CE1) : CI := fun ρ => (fe ρ).bind fun a => match a.1.own with
  | some (.lst xs) => .ok (xs, a.2)
  | _ => .stuck
def iTupl (fe : CE1) : CI := fun ρ => (fe ρ).bind fun a => match a.1.own with
  | some (.tup xs) => .ok (xs, a.2)
  | some (.ctup xs) => .ok (xs, a.2)
  | _ => .stuck
def iStrg (fe : CE1) : CI := fun ρ => (fe ρ).bind fun a => match a.1.own with
  | some (.str t) => .ok (t.map fun c => .str [c], a.2)
  | _ => .stuck
theorem rdIE_bind {k : Res × EnvQ → RI} {R' : It → Hp → Prop} {Q' : VK} (h : rdI X W L (fun ρ => (fe ρ).bind k) σ H R')
    (hk : ∀ ll S ρ S1 v H1 r ρ1, RR X.K L ll S1 ρ1 σ H1 → Tr S ρ σ H S1 ρ1 σ H1 → ResR X.K H S1 ρ1 σ H1 r v → GoI X W L ll S ρ σ H (k (r, ρ1)) R' → Q' v H1) : rdE X W L fe σ H Q' := by
  obtain ⟨ll, S, ρ, rr, g⟩ := h
  refine ⟨ll, S, ρ, rr, ?_⟩
  dsimp only at g
  cases e1 : fe ρ with
  | stuck => rw [e1] at g; exact g
  | exc c ρ' => rw [e1] at g; exact g
  | ok a =>
    obtain ⟨r, ρ1⟩ := a
    rw [e1] at g
    exact fun S1 v H1 r1 t1 q1 => hk ll S ρ S1 v H1 r ρ1 r1 t1 q1 g
/-- a result taken over, standing still -/
theorem own_rep {r : Res} {v : V} {d : D} (r1 : RR X.K L ll S1 ρ1 σ H1) (t1 : Tr S ρ σ H S1 ρ1 σ H1) (q1 : ResR X.K H S1 ρ1 σ H1 r v) (e : r.own = some d) : ∃ S2, RR X.K L ll S2 ρ1 σ H1 ∧ Tr S ρ σ H S2 ρ1 σ H1 ∧ Rep X.K S2 d v := by
  obtain ⟨S2, r2, t2, _, hd⟩ := freezes (rs := [r]) (ds := [d]) r1 t1 (.cons q1 .nil) (by unfold owns; rw [e]; rfl)
  cases hd with
  | cons hd _ => exact ⟨S2, r2, t2, hd⟩
theorem vi_list (he : VE X W L e fe) : VI X W L tg e (iSeq fe) := by
  refine ⟨PI.weak (pi_list he.pe) fun σ H Q h => ?_⟩
  refine rdIE_bind h fun ll S ρ S1 v H1 r ρ1 r1 t1 q1 g => ?_
  dsimp only at g
  split at g
  · rename_i xs eo
    obtain ⟨S2, r2, t2, hd⟩ := own_rep r1 t1 q1 eo
    cases hd with
    | @lst a vs _ hl0 hs =>
      have hl : SqL X.K S2 a vs := .inl (.inl hl0)
      refine ⟨a, rfl, ⟨vs, r2.sub.l hl⟩, g S2 _ H1 r2 t2 fun S' H' ex sub _ => ⟨fun i d ed => ?_, vs, sub.l ((Sub.of_ex ex).l hl), by rw [hs.length]; exact Nat.le_refl _⟩⟩
      obtain ⟨w, ew, rw'⟩ := hs.get ed
      have hl' := sub.l ((Sub.of_ex ex).l hl)
      exact ⟨⟨vs, w, hl', ew⟩, fun x H'' y => .inl ⟨y.1, by
        have := y.2 vs hl'
        rw [ew] at this
        cases this
        exact rw'.mono (Sub.of_ex ex)⟩⟩
  · exact g.elim
theorem tup_walk {a : Addr} {vs : List V} {xs : List D} {S2 : Hp} (hl : SqT X.K S2 a vs) (hs : Reps X.K S2 xs vs) : WalkOk X.K ll S2 xs (Itt X.K a) := fun S' H' ex sub _ => by
  have hl' := sub.t ((Sub.of_ex ex).t hl)
  refine ⟨fun i d ed => ?_, vs, hl', by rw [hs.length]; exact Nat.le_refl _⟩
  obtain ⟨w, ew, rw'⟩ := hs.get ed
  exact ⟨⟨vs, w, hl', ew⟩, fun x H'' y => .inl ⟨y.1, by
    have := y.2 vs hl'
    rw [ew] at this
    cases this
    exact rw'.mono (Sub.of_ex ex)⟩⟩
theorem vi_tup (he : VE X W L e fe) : VI X W L tg e (iTupl fe) := by
  refine ⟨PI.weak (pi_tup he.pe) fun σ H Q h => ?_⟩
  refine rdIE_bind h fun ll S ρ S1 v H1 r ρ1 r1 t1 q1 g => ?_
  dsimp only at g
  split at g
  · rename_i xs eo
    obtain ⟨S2, r2, t2, hd⟩ := own_rep r1 t1 q1 eo
    cases hd with
    | @tup a vs _ hl hs => exact ⟨a, rfl, ⟨vs, .inl (.inl (r2.sub.ex _ _ hl rfl))⟩, g S2 _ H1 r2 t2 (tup_walk (.inl (.inl hl)) hs)⟩
  · rename_i xs eo
    obtain ⟨S2, r2, t2, hd⟩ := own_rep r1 t1 q1 eo
    cases hd with
    | @ctup a vs _ hl hs => exact ⟨a, rfl, ⟨vs, r2.sub.t hl⟩, g S2 _ H1 r2 t2 (tup_walk hl hs)⟩
  · exact g.elim
/-- ranges -/
def rng (lo hi : Int) : List D := (List.range (hi - lo).toNat).map fun (i : Nat) => D.int (lo + i)
def iRng (fl : CL) : CI := fun ρ => (fl ρ).bind fun a => match gets a.2 a.1 with
  | some [.int j] => if -(2 ^ 62) ≤ j ∧ j < 2 ^ 62 then .ok (rng 0 j, a.2) else .stuck
  | some [.int i, .int j] => if -(2 ^ 62) ≤ i ∧ i < 2 ^ 62 ∧ -(2 ^ 62) ≤ j ∧ j < 2 ^ 62 then .ok (rng i j, a.2) else .stuck
  | _ => .stuck
theorem rng_walk {lo hi : Int} {n : Nat} (hn : n = (hi - lo).toNat) : WalkOk X.K ll S (rng lo hi) (Itr lo n) := fun S' H' ex sub _ => by
  subst hn
  refine ⟨fun i d ed => ?_, by
    show (hi - lo).toNat ≤ (rng lo hi).length
    unfold rng
    rw [List.length_map, List.length_range]
    exact Nat.le_refl _⟩
  unfold rng at ed
  rw [List.getElem?_map] at ed
  obtain ⟨k, e1, e2⟩ := Option.map_eq_some_iff.mp ed
  have hi := (List.getElem?_eq_some_iff.mp e1).1
  rw [List.getElem?_range (by simpa using hi)] at e1
  cases e1
  subst e2
  refine ⟨by simpa [Itr] using hi, fun x H'' y => .inl ⟨y.1, ?_⟩⟩
  rw [y.2]
  exact .int _
theorem rdIL_bind {fl : CL} {k : List Res × EnvQ → RI} {R' : It → Hp → Prop} {Q' : List V → Hp → Prop} (h : rdI X W L (fun ρ => (fl ρ).bind k) σ H R')
    (hk : ∀ ll S ρ S1 vs H1 rs ρ1, RR X.K L ll S1 ρ1 σ H1 → Tr S ρ σ H S1 ρ1 σ H1 → ResRs X.K H S1 ρ1 σ H1 rs vs → GoI X W L ll S ρ σ H (k (rs, ρ1)) R' → Q' vs H1) : rdL X W L fl σ H Q' := by
  obtain ⟨ll, S, ρ, rr, g⟩ := h
  refine ⟨ll, S, ρ, rr, ?_⟩
  dsimp only at g
  cases e1 : fl ρ with
  | stuck => rw [e1] at g; exact g
  | exc c ρ' => rw [e1] at g; exact g
  | ok a =>
    obtain ⟨r, ρ1⟩ := a
    rw [e1] at g
    exact fun S1 v H1 r1 t1 q1 => hk ll S ρ S1 v H1 r ρ1 r1 t1 q1 g
theorem Opds.ints1 {K : PySem.W.Frag} {j : Int} {vs : List V} (h : Opds K S H [.int j] vs) : vs = [.int j] := by
  cases h with
  | cons h q =>
    cases q
    rw [h.int]
theorem Opds.ints2 {K : PySem.W.Frag} {i j : Int} {vs : List V} (h : Opds K S H [.int i, .int j] vs) : vs = [.int i, .int j] := by
  cases h with
  | cons h q =>
    rw [h.int, q.ints1]
def iRng1' (fl : CL) : CI := fun ρ => (fl ρ).bind fun a => match gets a.2 a.1 with
  | some [.int j] => if -(2 ^ 62) ≤ j ∧ j < 2 ^ 62 then .ok (rng 0 j, a.2) else .stuck
  | _ => .stuck
def iRng2' (fl : CL) : CI := fun ρ => (fl ρ).bind fun a => match gets a.2 a.1 with
  | some [.int i, .int j] => if -(2 ^ 62) ≤ i ∧ i < 2 ^ 62 ∧ -(2 ^ 62) ≤ j ∧ j < 2 ^ 62 then .ok (rng i j, a.2) else .stuck
  | _ => .stuck
theorem vi_range1 {a : Expr} {fl : CL} {p : Pos} (hg : Gl X "range") (hm : X.mg "range" = none) (ha : VA X W L [a] fl) (hs : starEach [a] X.env = [(false, eval a X.env)] := by rfl) : VI X W L tg (.Call (.Name "range" p) [a] [] pos) (iRng1' fl) := by
  refine ⟨PI.weak (pi_range1 hg hm ha.pa hs) fun σ H Q h => ?_⟩
  refine rdIL_bind h fun ll S ρ S1 vs H1 rs ρ1 r1 t1 q1 g => ?_
  dsimp only at g
  split at g
  · rename_i j eo
    by_cases hj : -(2 ^ 62) ≤ j ∧ j < 2 ^ 62
    · rw [if_pos hj] at g
      refine ⟨j, (q1.opds r1 eo).ints1, hj.1, hj.2, g S1 _ H1 r1 t1 (rng_walk (by simp))⟩
    · rw [if_neg hj] at g; exact g.elim
  · exact g.elim
theorem vi_range2 {a b : Expr} {fl : CL} {p : Pos} (hg : Gl X "range") (hm : X.mg "range" = none) (ha : VA X W L [a, b] fl) (hs : starEach [a, b] X.env = [(false, eval a X.env), (false, eval b X.env)] := by rfl) (hs2 : starEach [b] X.env = [(false, eval b X.env)] := by rfl) : VI X W L tg (.Call (.Name "range" p) [a, b] [] pos) (iRng2' fl) := by
  refine ⟨PI.weak (pi_range2 hg hm ha.pa hs hs2) fun σ H Q h => ?_⟩
  refine rdIL_bind h fun ll S ρ S1 vs H1 rs ρ1 r1 t1 q1 g => ?_
  dsimp only at g
  split at g
  · rename_i i j eo
    by_cases hj : -(2 ^ 62) ≤ i ∧ i < 2 ^ 62 ∧ -(2 ^ 62) ≤ j ∧ j < 2 ^ 62
    · rw [if_pos hj] at g
      exact ⟨i, j, (q1.opds r1 eo).ints2, hj, g S1 _ H1 r1 t1 (rng_walk rfl)⟩
    · rw [if_neg hj] at g; exact g.elim
  · exact g.elim
theorem vi_str (he : VE X W L e fe) : VI X W L tg e (iStrg fe) := by
  refine ⟨PI.weak (pi_str he.pe) fun σ H Q h => ?_⟩
  refine rdIE_bind h fun ll S ρ S1 v H1 r ρ1 r1 t1 q1 g => ?_
  dsimp only at g
  split at g
  · rename_i t eo
    obtain ⟨S2, r2, t2, hd⟩ := own_rep r1 t1 q1 eo
    cases hd
    refine ⟨tS t, rfl, g S2 _ H1 r2 t2 fun S' H' ex sub _ => ⟨fun i d ed => ?_, ?_⟩⟩
    · rw [List.getElem?_map] at ed
      obtain ⟨c, e1, e2⟩ := Option.map_eq_some_iff.mp ed
      subst e2
      have hi := (List.getElem?_eq_some_iff.mp e1).1
      have e3 : (tS t).cps[i]? = some c := by
        show (t.toArray)[i]? = some c
        rw [List.getElem?_toArray]
        exact e1
      refine ⟨by show i < t.toArray.size; rw [List.size_toArray]; exact hi, fun x H'' y => .inl ⟨y.1, ?_⟩⟩
      obtain ⟨c', e4, e5⟩ := y.2
      rw [e3] at e4
      cases e4
      rw [e5]
      exact .str [c]
    · show t.toArray.size ≤ (t.map fun c => D.str [c]).length
      rw [List.size_toArray, List.length_map]
      exact Nat.le_refl _
  · exact g.elim

/-! ### targets -/
def gSet (i : Nat) : CG := fun d ρ => match ρ[i]? with
  | some s0 => if s0.free = true then some (ρ.set i (.sh d)) else none
  | none => none
theorem vg_name {i : Nat} {x : Str} (hN : X.N.Nodup) (hi : X.N[i]? = some x := by rfl) (hx : Loc X.env.scope x := by first | exact Or.inl rfl | exact Or.inr rfl) (hf : X.fn x = true ∨ X.env.scope.names.lookup x = some .local := by first | exact .inl rfl | exact .inr rfl) : VG X L (.Name x pos) (gSet i) := by
  refine ⟨PG.weak (pg_name hN hi hx hf) fun v σ H Q h => ?_⟩
  obtain ⟨ll, S, ρ, d, rr, rp, g⟩ := h
  unfold gSet at g
  cases e1 : ρ[i]? with
  | none => rw [e1] at g; exact g.elim
  | some s0 =>
    rw [e1] at g
    dsimp only at g
    by_cases hf0 : s0.free = true
    · rw [if_pos hf0] at g
      exact g S _ H (rr.store ⟨s0, e1, hf0⟩ rfl (fun d' z => by cases z; exact rp) (fun _ _ z => nomatch z)) (Tr.refl.store rr.len (fun _ _ z => nomatch z))
    · rw [if_neg hf0] at g; exact g.elim

/-! ### for -/
def loopFor (g : CG) (b : CS) : List D → CS
  | [], ρ => .ok (.nx ρ)
  | d :: ds, ρ => match g d ρ with
    | none => .stuck
    | some ρ1 => (b ρ1).bind fun x => match x with
      | .nx ρ2 => loopFor g b ds ρ2
      | .rt r ρ2 => .ok (.rt r ρ2)
def sFor (fi : CI) (g : CG) (b : CS) : CS := fun ρ => (fi ρ).bind fun a => loopFor g b a.1 a.2
theorem yld_rep {d : D} {x : V} {H' : Hp} (rr : RR X.K L ll S ρ σ H) (y : YldOk X.K S H d x H') : ∃ S', RR X.K L ll S' ρ σ H' ∧ Tr S ρ σ H S' ρ σ H' ∧ Rep X.K S' d x := by
  rcases y with ⟨rfl, y⟩ | ⟨T, o, rfl, hT, rfl, ob⟩ | ⟨rfl, T, xs, vs, rfl, rfl, hT, y⟩
  · exact ⟨S, rr, Tr.refl, y⟩
  · have r2 := rr.alloc (o := o) hT
    have t2 : Tr S ρ σ H S ρ σ (upd H T o) := Tr.refl.alloc hT
    have nS : S T = none := Classical.byContradiction fun n => rr.there n hT
    have no : ¬ OwnA ρ σ T := fun z => by
      obtain ⟨u, e⟩ := rr.ownH z
      rw [hT] at e; cases e
    obtain ⟨o', q, nf⟩ := ob.some
    refine ⟨setS S (upd H T o) T, r2.freeze nS no (fun o2 b x q' => ?_), t2.freeze nS (.inl hT), ob.freeze (Sub.of_ex (setS_ex nS)) setS_same⟩
    rw [q] at q'; cases q'
    exact nf b x
  · cases e : S T with
    | some u =>
      have : u = .tup vs := by
        by_cases ha : T ∈ ll
        · obtain ⟨ob, o, _, _, _, eh⟩ := rr.lk T ha
          rw [hT] at eh; cases eh
        · have := rr.ex T u e ha
          rw [hT] at this
          exact (Option.some.inj this).symm
      subst this
      exact ⟨S, rr, Tr.refl, .tup e y⟩
    | none =>
      have no : ¬ OwnA ρ σ T := fun ⟨i, l, d, h1, h2⟩ => by
        obtain ⟨a, e2, _, ob, _⟩ := rr.ow i l d h1
        rw [h2] at e2; cases e2
        cases d <;> first | exact ob.elim | (obtain ⟨_, q, _⟩ := ob; rw [hT] at q; cases q)
      refine ⟨setS S H' T, rr.freeze e no (fun o b x q => ?_), ?_, .tup (setS_same.trans hT) (Reps.mono (Sub.of_ex (setS_ex e)) y)⟩
      · rw [hT] at q; cases q
        exact fun z => nomatch z
      · refine ⟨setS_ex e, fun a o h _ => h, fun a h => .inl h, fun a h => ?_, fun a h => h⟩
        by_cases z : a = T
        · subst z
          exact .inr (.inr (by rw [hT]; rfl))
        · rw [setS_ne z] at h
          exact .inl h
theorem ps_forG {body : List Stmt} {fi : CI} {fg : CG} {fb : CS} (Pre : LK → EnvQ → St → Prop) (hp : PassesOwn (model X.prog X.w) X.A X.env X.xe) (hc : X.calm = true) (hi : PI X tg e fun σ H R' => ∃ ll S ρ, Pre ll ρ σ ∧ RR X.K L ll S ρ σ H ∧ GoI X W L ll S ρ σ H (fi ρ) R') (hg : VG X L tg fg) (hb : VSs X W L body fb)
    (hs : ∀ x, foldedSetIterable e X.env x = pure x := by intro _; rfl) : PS X (.For tg e body [] pos) (fun D σ H => ∃ ll S ρ, Pre ll ρ σ ∧ RR X.K L ll S ρ σ H ∧ GoS X W L ll S ρ σ H (sFor fi fg fb ρ) D) := by
  refine PS.weak (ps_for hp hc hi hg.pg hb.pss hs) fun σ H D h => ?_
  obtain ⟨ll, S, ρ, pre, rr, q⟩ := h
  refine ⟨ll, S, ρ, pre, rr, ?_⟩
  unfold sFor at q
  cases e1 : fi ρ with
  | stuck => rw [e1] at q; exact q
  | exc c ρ' => rw [e1] at q; exact q
  | ok a =>
    obtain ⟨items, ρ1⟩ := a
    rw [e1] at q
    intro S1 J H1 r1 t1 wk
    refine ⟨fun i m σ' H' => m = items.length - i ∧ i ≤ items.length ∧ ∃ S' ρ', RR X.K L ll S' ρ' σ' H' ∧ Tr S ρ σ H S' ρ' σ' H' ∧ Evl.Ex S1 S' ∧ GoS X W L ll S ρ σ H (loopFor fg fb (items.drop i) ρ') D, ⟨items.length, by simp, Nat.zero_le _, S1, ρ1, r1, t1, Evl.Ex.refl _, q⟩, ?_⟩
    rintro i m σ' H' ⟨rfl, hi', S', ρ', r', t', ex, g⟩
    obtain ⟨wi, ws⟩ := wk S' H' ex r'.sub r'.lo
    by_cases hlt : i < items.length
    · have ed : items[i]? = some items[i] := List.getElem?_eq_getElem hlt
      obtain ⟨go, yl⟩ := wi i _ ed
      rw [List.drop_eq_getElem_cons hlt] at g
      unfold loopFor at g
      refine .inr ⟨go, fun σ2 H2 => ∃ S2 ρ2, RR X.K L ll S2 ρ2 σ2 H2 ∧ Tr S ρ σ H S2 ρ2 σ2 H2 ∧ Evl.Ex S1 S2 ∧ GoS X W L ll S ρ σ H (loopFor fg fb (items.drop (i + 1)) ρ2) D, fun σ2 H2 z => ⟨items.length - (i + 1), by omega, rfl, hlt, z⟩, fun x H2 y => ?_⟩
      obtain ⟨S2, r2, t2, rp⟩ := yld_rep r' (yl x H2 y)
      refine ⟨ll, S2, ρ', items[i], r2, rp, ?_⟩
      cases eg : fg items[i] ρ' with
      | none => rw [eg] at g; exact g
      | some ρ3 =>
        rw [eg] at g
        dsimp only at g
        intro S3 σ3 H3 r3 t3
        have T3 := (t'.trans t2).trans t3
        refine ⟨ll, S3, ρ3, r3, ?_⟩
        cases eb : fb ρ3 with
        | stuck => rw [eb] at g; exact g
        | exc c ρ' =>
          rw [eb] at g
          exact GoX.back g T3
        | ok b =>
          rw [eb] at g
          cases b with
          | nx ρ4 => exact fun S4 σ4 H4 r4 t4 => ⟨S4, ρ4, r4, T3.trans t4, (ex.trans t2.ex).trans (t3.ex.trans t4.ex), g⟩
          | rt r ρ4 => exact GoS.back T3 g
    · have : i = items.length := by omega
      subst this
      rw [List.drop_length] at g
      exact .inl ⟨ws, g S' σ' H' r' t'⟩
theorem vs_for {body : List Stmt} {fi : CI} {fg : CG} {fb : CS} (hp : PassesOwn (model X.prog X.w) X.A X.env X.xe) (hc : X.calm = true) (hi : VI X W L tg e fi) (hg : VG X L tg fg) (hb : VSs X W L body fb)
    (hs : ∀ x, foldedSetIterable e X.env x = pure x := by intro _; rfl) : VS X W L (.For tg e body [] pos) (sFor fi fg fb) :=
  ⟨PS.weak (ps_forG (fun _ _ _ => True) hp hc (PI.weak hi.pi fun σ H R ⟨ll, S, ρ, _, r, g⟩ => ⟨ll, S, ρ, r, g⟩) hg hb hs) fun σ H D ⟨ll, S, ρ, r, g⟩ => ⟨ll, S, ρ, trivial, r, g⟩⟩

/-! ### while -/
def loopWhile (c : CB) (b : CS) : Nat → CS
  | 0, _ => .stuck
  | n + 1, ρ => (c ρ).bind fun a => if a.1 = true then (b a.2).bind fun x => match x with
      | .nx ρ2 => loopWhile c b n ρ2
      | .rt r ρ2 => .ok (.rt r ρ2)
    else .ok (.nx a.2)
/-- the fuel is reckoned from the slots -/
def sWhile (fuel : EnvQ → Nat) (c : CB) (b : CS) : CS := fun ρ => loopWhile c b (fuel ρ) ρ
theorem vs_while {t : Expr} {body : List Stmt} {c : CB} {fb : CS} (fuel : EnvQ → Nat) (hp : PassesOwn (model X.prog X.w) X.A X.env X.xe) (hc : VT X W L t c) (hb : VSs X W L body fb) : VS X W L (.While t body [] pos) (sWhile fuel c fb) := by
  refine ⟨PS.weak (ps_while hp hc.pt hb.pss) fun σ H D h => ?_⟩
  obtain ⟨ll, S, ρ, rr, q⟩ := h
  refine ⟨fun m σ' H' => ∃ S' ρ', RR X.K L ll S' ρ' σ' H' ∧ Tr S ρ σ H S' ρ' σ' H' ∧ GoS X W L ll S ρ σ H (loopWhile c fb m ρ') D, ⟨fuel ρ, S, ρ, rr, Tr.refl, q⟩, ?_⟩
  rintro m σ' H' ⟨S', ρ', r', t', g⟩
  cases m with
  | zero => exact g.elim
  | succ m =>
    unfold loopWhile at g
    refine ⟨ll, S', ρ', r', ?_⟩
    cases e1 : c ρ' with
    | stuck => rw [e1] at g; exact g
    | exc x ρ2 =>
      rw [e1] at g
      exact GoX.back g t'
    | ok a =>
      obtain ⟨b, ρ2⟩ := a
      rw [e1] at g
      intro S2 H2 r2 t2
      have T2 := t'.trans t2
      cases b with
      | false => exact iteF (g S2 σ' H2 r2 T2)
      | true =>
        refine iteT ⟨fun σ3 H3 => ∃ S3 ρ3, RR X.K L ll S3 ρ3 σ3 H3 ∧ Tr S ρ σ H S3 ρ3 σ3 H3 ∧ GoS X W L ll S ρ σ H (loopWhile c fb m ρ3) D, fun σ3 H3 z => ⟨m, Nat.lt_succ_self m, z⟩, ll, S2, ρ2, r2, ?_⟩
        unfold R.bind at g
        dsimp only at g
        rw [if_pos rfl] at g
        cases eb : fb ρ2 with
        | stuck => rw [eb] at g; exact g
        | exc x ρ3 =>
          rw [eb] at g
          exact GoX.back g T2
        | ok b =>
          rw [eb] at g
          cases b with
          | nx ρ4 => exact fun S4 σ4 H4 r4 t4 => ⟨S4, ρ4, r4, T2.trans t4, g⟩
          | rt r ρ4 => exact GoS.back T2 g
end
end QW

end
section
/-! comprehensions -/
namespace QW
open PySem PySem.Spec L2
abbrev W0 : WX := fun _ _ _ _ => False
def noX {ε α : Type} (m : R ε α) : R ε α := match m with
  | .ok a => .ok a
  | _ => .stuck
def bYes : CB := fun ρ => .ok (true, ρ)
def loopLc (j : Nat) (ct : CB) (fe : CE1) : List D → EnvQ → R (List Sl) (List D × EnvQ)
  | [], ρ => .ok ([], ρ)
  | d :: ds, ρ => (noX (ct (ρ.set j (.sh d)))).bind fun a => if a.1 = true then (noX (fe a.2)).bind fun x => opt x.1.own fun dx => (loopLc j ct fe ds (x.2.set j .un)).bind fun r => .ok (dx :: r.1, r.2)
      else loopLc j ct fe ds (a.2.set j .un)
def Sl.plain : Sl → Bool
  | .ow _ _ => false
  | _ => true
def eComp (j : Nat) (fi : CI) (ct : CB) (fe : CE1) : CE1 := fun ρ => (fi ρ).bind fun a => match a.2[j]? with
  | some s0 => if s0.plain = true ∧ a.1.length ≤ 100000 then (loopLc j ct fe a.1 (a.2.set j .un)).bind fun r => .ok (.ow (.lst r.1), r.2.set j s0) else .stuck
  | none => .stuck
section
variable {K : PySem.W.Frag} {L : Nat → Option Addr} {ll : LK} {S S1 S2 S' : Hp} {ρ ρ1 ρ2 ρ' : EnvQ} {σ σ2 : St} {H H0 H1 H2 H' : Hp}
theorem Tr.upd (t : Tr S ρ σ H S1 ρ1 σ2 H1) {D : Addr} {o : HO} (h : H D = none) : Tr S ρ σ H S1 ρ1 σ2 (upd H1 D o) where
  ex := t.ex
  fr := fun a u e n => by
    rw [upd_ne (ne_of_none e h)]
    exact t.fr a u e n
  nw := t.nw
  ns := t.ns
  dm := fun a e => by
    by_cases z : a = D
    · rw [z, upd_same]; simp
    · rw [upd_ne z]; exact t.dm a e
/-- an object that is nobody's changes -/
theorem RR.upd (r : RR K L ll S ρ σ H) {D : Addr} {o : HO} (h : S D = none) (n : ¬ OwnA ρ σ D) : RR K L ll S ρ σ (upd H D o) where
  len := r.len
  ex := fun a u e z => by
    rw [upd_ne (ne_of_none e h)]
    exact r.ex a u e z
  lk := fun a z => by
    obtain ⟨ob, u, nf, nt, e, eh⟩ := r.lk a z
    exact ⟨ob, u, nf, nt, e, by rw [upd_ne (ne_of_none e h)]; exact eh⟩
  nf := r.nf
  lo := fun a ob z => by
    obtain ⟨_, _, _, _, e, _⟩ := r.lk a (LK.mem z)
    obtain ⟨u, e2⟩ := r.lo a ob z
    exact ⟨u, by rw [upd_ne (ne_of_none e h)]; exact e2⟩
  sh := r.sh
  ow := fun i l d e => by
    obtain ⟨a, p1, p2, p3, p4⟩ := r.ow i l d e
    have : a ≠ D := fun z => by
      subst z
      exact n ⟨i, l, d, e, p1⟩
    exact ⟨a, p1, p2, p3.mono (Sub.refl S) (upd_ne this), p4⟩
  ln := r.ln
  sep := r.sep
/-- slot j forgotten -/
theorem RR.drop (r : RR K L ll S ρ σ H) {j : Nat} (h : L j = none) : RR K L ll S (ρ.set j .un) (σ.set j none) H := by
  have old : ∀ (k : Nat) s, (ρ.set j .un)[k]? = some s → (k ≠ j ∧ ρ[k]? = some s ∧ (σ.set j none)[k]? = σ[k]?) ∨ s = .un := fun k s e => by
    by_cases z : k = j
    · subst z
      have hk := (List.getElem?_eq_some_iff.mp e).1
      rw [List.length_set] at hk
      rw [List.getElem?_set_self hk] at e
      cases e
      exact .inr rfl
    · rw [List.getElem?_set_ne (Ne.symm z)] at e
      exact .inl ⟨z, e, List.getElem?_set_ne (Ne.symm z)⟩
  refine ⟨by simp [r.len], r.ex, r.lk, r.lo, r.nf, fun i d e => ?_, fun i l d e => ?_, fun i a e => ?_, fun i k l m d e a h1 h2 h3 h4 => ?_⟩
  · rcases old i _ e with ⟨z, e', es⟩ | z
    · rw [es]; exact r.sh i d e'
    · cases z
  · rcases old i _ e with ⟨z, e', es⟩ | z
    · rw [es]; exact r.ow i l d e'
    · cases z
  · obtain ⟨d, p⟩ := r.ln i a e
    have : i ≠ j := fun z => by
      subst z
      rw [h] at e; cases e
    exact ⟨d, by rw [List.getElem?_set_ne (Ne.symm this)]; exact p⟩
  · rcases old i _ h1 with ⟨_, p1, s1⟩ | z
    · rcases old k _ h2 with ⟨_, p2, s2⟩ | z
      · rw [s1] at h3
        rw [s2] at h4
        exact r.sep i k l m d e a p1 p2 h3 h4
      · cases z
    · cases z
/-- slot j as it was -/
theorem RR.undrop {j : Nat} {s0 : Sl} (r : RR K L ll S' ρ' (σ.set j none) H') (hp : s0.plain = true) (hs : ∀ d, s0 = .sh d → ∃ v, σ[j]? = some (some v) ∧ Rep K S' d v) (hl : L j = none) : RR K L ll S' (ρ'.set j s0) σ H' := by
  have old : ∀ (k : Nat) s, (ρ'.set j s0)[k]? = some s → (k ≠ j ∧ ρ'[k]? = some s ∧ (σ.set j none)[k]? = σ[k]?) ∨ (k = j ∧ s = s0) := fun k s e => by
    by_cases z : k = j
    · subst z
      have hk := (List.getElem?_eq_some_iff.mp e).1
      rw [List.length_set] at hk
      rw [List.getElem?_set_self hk] at e
      cases e
      exact .inr ⟨rfl, rfl⟩
    · rw [List.getElem?_set_ne (Ne.symm z)] at e
      exact .inl ⟨z, e, List.getElem?_set_ne (Ne.symm z)⟩
  have nop : ∀ l d, s0 ≠ .ow l d := fun l d z => by
    subst z
    exact absurd (show false = true from hp) Bool.false_ne_true
  refine ⟨by have := r.len; simpa using this, r.ex, r.lk, r.lo, r.nf, fun i d e => ?_, fun i l d e => ?_, fun i a e => ?_, fun i k l m d e a h1 h2 h3 h4 => ?_⟩
  · rcases old i _ e with ⟨z, e', es⟩ | ⟨z, e'⟩
    · rw [← es]; exact r.sh i d e'
    · subst z
      exact hs d e'.symm
  · rcases old i _ e with ⟨z, e', es⟩ | ⟨z, e'⟩
    · rw [← es]; exact r.ow i l d e'
    · exact absurd e'.symm (nop l d)
  · obtain ⟨d, p⟩ := r.ln i a e
    have : i ≠ j := fun z => by
      subst z
      rw [hl] at e; cases e
    exact ⟨d, by rw [List.getElem?_set_ne (Ne.symm this)]; exact p⟩
  · rcases old i _ h1 with ⟨_, p1, s1⟩ | ⟨_, z⟩
    · rcases old k _ h2 with ⟨_, p2, s2⟩ | ⟨_, z⟩
      · rw [← s1] at h3
        rw [← s2] at h4
        exact r.sep i k l m d e a p1 p2 h3 h4
      · exact absurd z.symm (nop m e)
    · exact absurd z.symm (nop l d)
/-- what a turn does, seen from outside -/
theorem Tr.turn {j : Nat} {s0 : Sl} {d : D} {x : V} (hp : s0.plain = true) (hl : ρ'.length = σ.length) (hl2 : ρ1.length = σ.length) (t : Tr S (ρ'.set j (.sh d)) ((σ.set j none).set j (some x)) H S1 ρ1 ((σ.set j none).set j (some x)) H1) : Tr S (ρ'.set j s0) σ H S1 ((ρ1.set j .un).set j s0) σ H1 := by
  have nop : ∀ l d, s0 ≠ .ow l d := fun l d z => by
    subst z
    exact absurd (show false = true from hp) Bool.false_ne_true
  have a1 : ∀ a, OwnA (ρ'.set j (.sh d)) ((σ.set j none).set j (some x)) a → OwnA (ρ'.set j s0) σ a := fun a ⟨k, l, e, h1, h2⟩ => by
    by_cases z : k = j
    · subst z
      have hk := (List.getElem?_eq_some_iff.mp h1).1
      rw [List.length_set] at hk
      rw [List.getElem?_set_self hk] at h1
      cases h1
    · rw [List.getElem?_set_ne (Ne.symm z)] at h1
      rw [List.getElem?_set_ne (Ne.symm z), List.getElem?_set_ne (Ne.symm z)] at h2
      exact ⟨k, l, e, by rw [List.getElem?_set_ne (Ne.symm z)]; exact h1, h2⟩
  have a2 : ∀ a, OwnA ((ρ1.set j .un).set j s0) σ a → OwnA ρ1 ((σ.set j none).set j (some x)) a := fun a ⟨k, l, e, h1, h2⟩ => by
    by_cases z : k = j
    · subst z
      have hk := (List.getElem?_eq_some_iff.mp h1).1
      simp only [List.length_set] at hk
      rw [List.set_set, List.getElem?_set_self hk] at h1
      exact absurd (Option.some.inj h1) (nop l e)
    · rw [List.getElem?_set_ne (Ne.symm z), List.getElem?_set_ne (Ne.symm z)] at h1
      exact ⟨k, l, e, h1, by rw [List.getElem?_set_ne (Ne.symm z), List.getElem?_set_ne (Ne.symm z)]; exact h2⟩
  exact ⟨t.ex, fun a o e n => t.fr a o e fun z => n (a1 a z), fun a z => (t.nw a (a2 a z)).imp (a1 a) fun z => z, fun a z => (t.ns a z).imp (fun z => z) fun z => z.imp (a1 a) fun z => z, t.dm⟩
end
section
variable {X : Cx} {W : WX} {L : Nat → Option Addr} {elt tg iter : Expr} {ifs : List Expr} {pos : Pos} {fe : CE1} {fi : CI} {ct : CB}
/-- a clause's tests, by values -/
structure VTs (X : Cx) (W : WX) (L : Nat → Option Addr) (ifs : List Expr) (f : CB) : Prop where
  pts : PTs X ifs (rdB X W L f)
theorem vts_nil : VTs X W L [] bYes := by
  refine ⟨⟨fun pins s σ H Q I h => pts_nil.run pins s σ H Q I ?_⟩⟩
  obtain ⟨ll, S, ρ, rr, g⟩ := h
  exact g S H rr Tr.refl
theorem vts_one {c : Expr} (h : VT X W L c ct) : VTs X W L [c] ct := ⟨pts_one h.pt⟩
/-- the reading of a comprehension -/
theorem comp_goP (Pre : LK → EnvQ → St → Prop) {j : Nat} {vs : List Nat} (hvs : vs = [j]) {σ : St} {H : Hp} {Q : VK} (X' : Shared → Hp → Addr → List (Str × Addr) → List Addr → Cx) (h : ∃ ll S ρ, Pre ll ρ σ ∧ RR X.K L ll S ρ σ H ∧ GoE X W L ll S ρ σ H (eComp j fi ct fe ρ) Q) :
    tLc (fun σ H R' => ∃ ll S ρ, Pre ll ρ σ ∧ RR X.K L ll S ρ σ H ∧ GoI X W L ll S ρ σ H (fi ρ) R') (gName j) (fun σ H Q => ∃ ll S ρ, RR X.K L ll S ρ σ H ∧ GoB { X with xe := fun _ _ => False } W0 L ll S ρ σ H (ct ρ) Q) (fun σ H Q => ∃ ll S ρ, RR X.K L ll S ρ σ H ∧ GoE { X with xe := fun _ _ => False } W0 L ll S ρ σ H (fe ρ) Q) vs σ H Q := by
  subst hvs
  obtain ⟨ll, S, ρ, pre, rr, g⟩ := h
  refine ⟨ll, S, ρ, pre, rr, ?_⟩
  unfold eComp at g
  cases e1 : fi ρ with
  | stuck => rw [e1] at g; exact g
  | exc c ρ' => rw [e1] at g; exact g
  | ok a =>
    obtain ⟨items, ρ1⟩ := a
    rw [e1] at g
    intro S1 J H1 r1 t1 wk Dl hD
    unfold R.bind at g
    dsimp only at g
    cases e2 : ρ1[j]? with
    | none => rw [e2] at g; exact g.elim
    | some s0 =>
      rw [e2] at g
      dsimp only at g
      obtain ⟨⟨hp, hlen⟩, g⟩ := ite_go g
      have hj : j < ρ1.length := (List.getElem?_eq_some_iff.mp e2).1
      have hjσ : j < σ.length := by rw [← r1.len]; exact hj
      have hL : L j = none := by
        cases e3 : L j with
        | none => rfl
        | some a =>
          obtain ⟨d, p⟩ := r1.ln j a e3
          rw [e2] at p
          cases p
          exact absurd (show false = true from hp) Bool.false_ne_true
      have hwp : wipe σ [j] = σ.set j none := rfl
      have hs0 : ∀ {T : Hp}, Evl.Ex S1 T → ∀ d, s0 = .sh d → ∃ v, σ[j]? = some (some v) ∧ Rep X.K T d v := fun ex d z => by
        subst z
        obtain ⟨v, p, q⟩ := r1.sh j d e2
        exact ⟨v, p, q.mono (Sub.of_ex ex)⟩
      have hsame : ρ1.set j s0 = ρ1 := by
        apply List.ext_getElem?
        intro k
        by_cases z : k = j
        · subst z
          rw [List.getElem?_set_self hj, e2]
        · rw [List.getElem?_set_ne (Ne.symm z)]
      have SD : S1 Dl = none := Classical.byContradiction fun n => r1.there n hD
      refine ⟨fun i m H' => m = items.length - i ∧ i ≤ items.length ∧ ∃ S' ρ' ws acc, RR X.K L ll S' ρ' (σ.set j none) H' ∧ ρ'[j]? = some .un ∧ Tr S ρ σ H S' (ρ'.set j s0) σ H' ∧ Evl.Ex S1 S' ∧ H' Dl = some (.lst ws) ∧ Reps X.K S' acc ws ∧ acc.length ≤ i ∧ S' Dl = none ∧
        (¬ OwnA ρ' (σ.set j none) Dl) ∧ GoE X W L ll S ρ σ H ((loopLc j ct fe (items.drop i) ρ').bind fun r => .ok (.ow (.lst (acc ++ r.1)), r.2.set j s0)) Q, ⟨items.length, by simp, Nat.zero_le _, S1, ρ1.set j .un, [], [], ?_, ?_, ?_, Evl.Ex.refl _, upd_same, .nil, Nat.zero_le _, SD, ?_, ?_⟩, ?_⟩
      · exact (r1.drop hL).alloc hD
      · exact List.getElem?_set_self hj
      · rw [List.set_set, hsame]
        exact t1.alloc hD
      · intro z
        obtain ⟨o, eo⟩ := (r1.drop hL).ownH z
        rw [hD] at eo; cases eo
      · simp only [List.nil_append, List.drop_zero]
        exact g
      rintro i m H' ⟨rfl, hi', S', ρ', ws, acc, r', hun, t', ex, eD, hacc, hal, sD, noD, g⟩
      obtain ⟨wi, wst⟩ := wk S' H' ex r'.sub r'.lo
      have HD0 : H Dl = none := t1.back hD
      by_cases hlt : i < items.length
      · have ed : items[i]? = some items[i] := List.getElem?_eq_getElem hlt
        obtain ⟨go, yl⟩ := wi i _ ed
        rw [List.drop_eq_getElem_cons hlt] at g
        unfold loopLc at g
        refine .inr ⟨go, fun H2 => ∃ S' ρ' ws acc, RR X.K L ll S' ρ' (σ.set j none) H2 ∧ ρ'[j]? = some .un ∧ Tr S ρ σ H S' (ρ'.set j s0) σ H2 ∧ Evl.Ex S1 S' ∧ H2 Dl = some (.lst ws) ∧ Reps X.K S' acc ws ∧ acc.length ≤ i + 1 ∧ S' Dl = none ∧
          (¬ OwnA ρ' (σ.set j none) Dl) ∧ GoE X W L ll S ρ σ H ((loopLc j ct fe (items.drop (i + 1)) ρ').bind fun r => .ok (.ow (.lst (acc ++ r.1)), r.2.set j s0)) Q, fun H2 z => ⟨items.length - (i + 1), by omega, rfl, hlt, z⟩, fun x H2 y => ?_⟩
        obtain ⟨S2, r2, t2, rp⟩ := yld_rep r' (yl x H2 y)
        have hD2 : H2 Dl = some (.lst ws) := t2.fr _ _ eD noD
        have r3 := r2.store (i := j) (s := .sh items[i]) (v := x) ⟨.un, hun, rfl⟩ rfl (fun d z => by cases z; exact rp) (fun _ _ z => nomatch z)
        show wipe ((wipe σ [j]).set j (some x)) [j] = wipe σ [j] ∧ _
        refine ⟨by rw [hwp]; show ((σ.set j none).set j (some x)).set j none = σ.set j none; rw [List.set_set, List.set_set], ll, S2, ρ'.set j (.sh items[i]), r3, ?_⟩
        have hlen' : ρ'.length = σ.length := by have := r'.len; simpa using this
        have no3 : ¬ OwnA (ρ'.set j (.sh items[i])) ((σ.set j none).set j (some x)) Dl := fun ⟨k, l, e, h1, h2⟩ => by
          by_cases z : k = j
          · subst z
            rw [List.getElem?_set_self (by rw [hlen']; exact hjσ)] at h1
            cases h1
          · rw [List.getElem?_set_ne (Ne.symm z)] at h1
            rw [List.getElem?_set_ne (Ne.symm z)] at h2
            exact noD ⟨k, l, e, h1, h2⟩
        have t2' : Tr S ρ σ H S2 (ρ'.set j s0) σ H2 := by
          refine t'.trans ?_
          refine ⟨t2.ex, fun a o e n => t2.fr a o e fun z => ?_, fun a z => .inl z, fun a z => (t2.ns a z).imp (fun z => z) fun z => z.imp (fun z => ?_) fun z => z, t2.dm⟩
          all_goals
            obtain ⟨k, l, e', h1, h2⟩ := z
            have hk : k ≠ j := fun z => by
              subst z
              rw [hun] at h1; cases h1
            rw [List.getElem?_set_ne (Ne.symm hk)] at h2
          · exact n ⟨k, l, e', by rw [List.getElem?_set_ne (Ne.symm hk)]; exact h1, h2⟩
          · exact ⟨k, l, e', by rw [List.getElem?_set_ne (Ne.symm hk)]; exact h1, h2⟩
        have sD2 : S2 Dl = none := Classical.byContradiction fun n => (t2.ns Dl n).elim (fun z => z sD) fun z => z.elim noD fun z => by rw [eD] at z; cases z
        -- the test
        cases ec : ct (ρ'.set j (.sh items[i])) with
        | stuck => rw [ec] at g; exact g
        | exc c ρ5 => rw [ec] at g; exact g.elim
        | ok b =>
          obtain ⟨b, ρ4⟩ := b
          rw [ec] at g
          intro S4 H4 r4 t4
          have hD4 : H4 Dl = some (.lst ws) := t4.fr _ _ hD2 no3
          have no4 : ¬ OwnA ρ4 ((σ.set j none).set j (some x)) Dl := fun z => (t4.nw Dl z).elim no3 fun z => by rw [hD2] at z; cases z
          have sD4 : S4 Dl = none := Classical.byContradiction fun n => (t4.ns Dl n).elim (fun z => z sD2) fun z => z.elim no3 fun z => by rw [hD2] at z; cases z
          have hl4 : ρ4.length = σ.length := by have := r4.len; simpa [wipe] using this
          -- a turn's end
          have fin : ∀ {S5 ρ5 H5}, RR X.K L ll S5 ρ5 ((σ.set j none).set j (some x)) H5 → Tr S2 (ρ'.set j (.sh items[i])) ((σ.set j none).set j (some x)) H2 S5 ρ5 ((σ.set j none).set j (some x)) H5 →
              RR X.K L ll S5 (ρ5.set j .un) (σ.set j none) H5 ∧ (ρ5.set j .un)[j]? = some .un ∧ Tr S ρ σ H S5 ((ρ5.set j .un).set j s0) σ H5 ∧ ¬ OwnA (ρ5.set j .un) (σ.set j none) Dl := fun {S5 ρ5 H5} r5 t5 => by
            have hl5 : ρ5.length = σ.length := by have := r5.len; simpa using this
            have q1 := r5.drop hL
            rw [List.set_set, List.set_set] at q1
            refine ⟨q1, List.getElem?_set_self (by rw [hl5]; exact hjσ), t2'.trans (t5.turn hp hlen' hl5), fun z => ?_⟩
            obtain ⟨k, l, e', h1, h2⟩ := z
            have hk : k ≠ j := fun z => by
              subst z
              rw [List.getElem?_set_self (by rw [hl5]; exact hjσ)] at h1
              cases h1
            rw [List.getElem?_set_ne (Ne.symm hk)] at h1
            have : OwnA ρ5 ((σ.set j none).set j (some x)) Dl := ⟨k, l, e', h1, by rw [List.getElem?_set_ne (Ne.symm hk)]; exact h2⟩
            rcases t5.nw Dl this with z | z
            · exact no3 z
            · rw [hD2] at z; cases z
          cases b with
          | false =>
            refine iteF ?_
            obtain ⟨f1, f2, f3, f4⟩ := fin r4 t4
            exact ⟨S4, ρ4.set j .un, ws, acc, f1, f2, f3, (ex.trans t2.ex).trans t4.ex, hD4, Reps.mono (Sub.of_ex (t2.ex.trans t4.ex)) hacc, Nat.le_succ_of_le hal, sD4, f4, g⟩
          | true =>
            refine iteT ⟨ll, S4, ρ4, r4, ?_⟩
            unfold R.bind noX at g
            dsimp only at g
            rw [if_pos rfl] at g
            cases ee : fe ρ4 with
            | stuck => rw [ee] at g; exact g
            | exc c ρ5 => rw [ee] at g; exact g.elim
            | ok z =>
              obtain ⟨rx, ρ5⟩ := z
              rw [ee] at g
              dsimp only at g
              intro S5 v5 H5 r5 t5 q5
              cases eo : rx.own with
              | none => rw [eo] at g; exact g.elim
              | some dx =>
                rw [eo] at g
                have t45 := t4.trans t5
                obtain ⟨S6, r6, t6, hd6⟩ := own_rep r5 t5 q5 eo
                have t46 := t4.trans t6
                have hD5 : H5 Dl = some (.lst ws) := t5.fr _ _ hD4 no4
                obtain ⟨f1, f2, f3, f4⟩ := fin r6 t46
                have sD6 : S6 Dl = none := Classical.byContradiction fun n => (t6.ns Dl n).elim (fun z => z sD4) fun z => z.elim no4 fun z => by rw [hD4] at z; cases z
                have ex6 : Evl.Ex S' S6 := t2.ex.trans (t4.ex.trans t6.ex)
                refine ⟨ws, hD5, by rw [← hacc.length]; exact Nat.lt_of_le_of_lt hal (Nat.lt_of_lt_of_le (Nat.lt_of_lt_of_le hlt hlen) (by decide)), S6, ρ5.set j .un, ws ++ [v5], acc ++ [dx], f1.upd sD6 f4, f2, f3.upd HD0, ex.trans ex6, upd_same, (Reps.mono (Sub.of_ex ex6) hacc).append (.cons hd6 .nil), by simp; exact hal, sD6, f4, ?_⟩
                unfold opt at g
                dsimp only at g
                cases el : loopLc j ct fe (List.drop (i + 1) items) (ρ5.set j .un) with
                | stuck => rw [el] at g; exact g
                | exc c ρ9 => rw [el] at g; exact g
                | ok z =>
                  rw [el] at g
                  show GoE X W L ll S ρ σ H (.ok (.ow (.lst ((acc ++ [dx]) ++ z.1)), z.2.set j s0)) Q
                  rw [List.append_assoc]
                  exact g
      · have : i = items.length := by omega
        subst this
        rw [List.drop_length] at g
        refine .inl ⟨wst, ?_⟩
        have g : GoE X W L ll S ρ σ H (.ok (.ow (.lst (acc ++ [])), ρ'.set j s0)) Q := g
        rw [List.append_nil] at g
        refine g S' (.ref Dl) H' (r'.undrop hp (hs0 ex) hL) t' ⟨Dl, rfl, sD, ⟨ws, eD, hacc⟩, fun z => ?_, HD0⟩
        obtain ⟨k, l, e', h1, h2⟩ := z
        have hl' : ρ'.length = σ.length := by have := r'.len; simpa using this
        by_cases z : k = j
        · subst z
          rw [List.getElem?_set_self (by rw [hl']; exact hjσ)] at h1
          cases h1
          exact absurd (show false = true from hp) Bool.false_ne_true
        · rw [List.getElem?_set_ne (Ne.symm z)] at h1
          exact noD ⟨k, l, e', h1, by rw [List.getElem?_set_ne (Ne.symm z)]; exact h2⟩
theorem comp_go {j : Nat} {vs : List Nat} (hvs : vs = [j]) {σ : St} {H : Hp} {Q : VK} (X' : Shared → Hp → Addr → List (Str × Addr) → List Addr → Cx) (h : rdE X W L (eComp j fi ct fe) σ H Q) :
    tLc (rdI X W L fi) (gName j) (fun σ H Q => ∃ ll S ρ, RR X.K L ll S ρ σ H ∧ GoB { X with xe := fun _ _ => False } W0 L ll S ρ σ H (ct ρ) Q) (fun σ H Q => ∃ ll S ρ, RR X.K L ll S ρ σ H ∧ GoE { X with xe := fun _ _ => False } W0 L ll S ρ σ H (fe ρ) Q) vs σ H Q := by
  obtain ⟨ll, S, ρ, rr, g⟩ := h
  obtain ⟨ll, S, ρ, _, rr, g⟩ := comp_goP (fun _ _ _ => True) hvs X' ⟨ll, S, ρ, trivial, rr, g⟩
  exact ⟨ll, S, ρ, rr, g⟩
end
end QW

end
section
/-! comprehensions as expressions and statements; objects changed; several targets; raise -/
namespace QW
open PySem PySem.Spec L2
section
variable {X : Cx} {W : WX} {L : Nat → Option Addr} {elt iter e o : Expr} {ifs : List Expr} {pos : Pos} {fe : CE1} {fi : CI} {ct : CB} {fl : CL} {ll : LK} {S S1 S2 : Hp} {ρ ρ1 ρ2 : EnvQ} {σ : St} {H H1 H2 : Hp}
theorem own_rep' {r : Res} {v : V} {d : D} (r1 : RR X.K L ll S1 ρ1 σ H1) (t1 : Tr S ρ σ H S1 ρ1 σ H1) (q1 : ResR X.K H S1 ρ1 σ H1 r v) (e : r.own = some d) : ∃ S2, RR X.K L ll S2 ρ1 σ H1 ∧ Tr S ρ σ H S2 ρ1 σ H1 ∧ Evl.Ex S1 S2 ∧ Rep X.K S2 d v := by
  obtain ⟨S2, r2, t2, ex, hd⟩ := freezes (rs := [r]) (ds := [d]) r1 t1 (.cons q1 .nil) (by unfold owns; rw [e]; rfl)
  cases hd with
  | cons hd _ => exact ⟨S2, r2, t2, ex, hd⟩
theorem Opd.mono {K : PySem.W.Frag} {d : D} {v : V} (h : Opd K S H d v) (s : Sub S S1) : Opd K S1 H d v := by
  rcases h with h | ⟨a, rfl, h⟩
  · exact .inl (h.mono s)
  · exact .inr ⟨a, rfl, h.mono s rfl⟩
theorem v_comp {j : Nat} {x : Str} {p : Pos} {scope : Scope} (hc : X.calm = true) (hN : X.N.Nodup) (hi : VI X W L (.Name x p) iter fi) (ok : blkC X.N X.env.scope scope [(x, j)] = true)
    (ht : ∀ (s : Shared) (H : Hp) (C : Addr) (cl : List (Str × Addr)) (fp : List Addr), VTs (X.blk s H scope (compEnvC scope cl C X.env) fp) W0 L ifs ct)
    (he : ∀ (s : Shared) (H : Hp) (C : Addr) (cl : List (Str × Addr)) (fp : List Addr), VE (X.blk s H scope (compEnvC scope cl C X.env) fp) W0 L elt fe)
    (hj : X.N[j]? = some x := by rfl) (hx : Loc (relS scope X.env.scope) x := by first | exact .inl rfl | exact .inr rfl) (hf : (scope.names.lookup x == some NameKind.cell) = true ∨ (relS scope X.env.scope).names.lookup x = some .local := by first | exact .inl rfl | exact .inr rfl)
    (hs : ∀ x, foldedSetIterable iter X.env x = pure x := by intro _; rfl) : VE X W L (.ListComp elt [⟨.Name x p, iter, ifs, 0⟩] scope pos) (eComp j fi ct fe) := by
  refine ⟨PE.weak (pe_lc (own := [(x, j)]) (g := gName j) (tt := fun σ H Q => ∃ ll S ρ, RR X.K L ll S ρ σ H ∧ GoB { X with xe := fun _ _ => False } W0 L ll S ρ σ H (ct ρ) Q) (te := fun σ H Q => ∃ ll S ρ, RR X.K L ll S ρ σ H ∧ GoE { X with xe := fun _ _ => False } W0 L ll S ρ σ H (fe ρ) Q) hc hN hi.pi (blkOk_by ok) (fun s H C cl fp => pg_name (i := j) hN hj hx hf) (fun s H C cl fp => (ht s H C cl fp).pts) (fun s H C cl fp => (he s H C cl fp).pe) hs) fun σ H Q h => ?_⟩
  exact comp_go (vs := [j]) rfl (fun s H C cl fp => X.blk s H scope (compEnvC scope cl C X.env) fp) h
theorem ps_comp {i j : Nat} {x y : Str} {p py spos : Pos} {scope : Scope} (hc : X.calm = true) (hN : X.N.Nodup) (hi : VI X W L (.Name x p) iter fi) (ok : blkC X.N X.env.scope scope [(x, j)] = true)
    (ht : ∀ (s : Shared) (H : Hp) (C : Addr) (cl : List (Str × Addr)) (fp : List Addr), VTs (X.blk s H scope (compEnvC scope cl C X.env) fp) W0 L ifs ct)
    (he : ∀ (s : Shared) (H : Hp) (C : Addr) (cl : List (Str × Addr)) (fp : List Addr), VE (X.blk s H scope (compEnvC scope cl C X.env) fp) W0 L elt fe)
    (hy : X.N[i]? = some y) (hyl : X.env.scope.names.lookup y = some .local) (hsw : swapsWith (.ListComp elt [⟨.Name x p, iter, ifs, 0⟩] scope pos) (some (.Name y py)) spos.line X.env = pure true)
    (hj : X.N[j]? = some x) (hx : Loc (relS scope X.env.scope) x) (hf : (scope.names.lookup x == some NameKind.cell) = true ∨ (relS scope X.env.scope).names.lookup x = some .local)
    (hs : ∀ x, foldedSetIterable iter X.env x = pure x := by intro _; rfl) : PS X (.Assign [.Name y py] (.ListComp elt [⟨.Name x p, iter, ifs, 0⟩] scope pos) spos) (tAsg (rdE X W L (eComp j fi ct fe)) (gName i)) := by
  refine PS.weak (ps_setLc (own := [(x, j)]) (g := gName j) (tt := fun σ H Q => ∃ ll S ρ, RR X.K L ll S ρ σ H ∧ GoB { X with xe := fun _ _ => False } W0 L ll S ρ σ H (ct ρ) Q) (te := fun σ H Q => ∃ ll S ρ, RR X.K L ll S ρ σ H ∧ GoE { X with xe := fun _ _ => False } W0 L ll S ρ σ H (fe ρ) Q) hc hN hy hyl hsw hi.pi (blkOk_by ok) (fun s H C cl fp => pg_name (i := j) hN hj hx hf) (fun s H C cl fp => (ht s H C cl fp).pts) (fun s H C cl fp => (he s H C cl fp).pe) hs) fun σ H D h => ?_
  exact comp_go (vs := [j]) rfl (fun s H C cl fp => X.blk s H scope (compEnvC scope cl C X.env) fp) h
/-- y = [..], one's own -/
theorem vs_setC {i j : Nat} {x y : Str} {p py spos : Pos} {scope : Scope} (hc : X.calm = true) (hN : X.N.Nodup) (hi : VI X W L (.Name x p) iter fi) (ok : blkC X.N X.env.scope scope [(x, j)] = true)
    (ht : ∀ (s : Shared) (H : Hp) (C : Addr) (cl : List (Str × Addr)) (fp : List Addr), VTs (X.blk s H scope (compEnvC scope cl C X.env) fp) W0 L ifs ct)
    (he : ∀ (s : Shared) (H : Hp) (C : Addr) (cl : List (Str × Addr)) (fp : List Addr), VE (X.blk s H scope (compEnvC scope cl C X.env) fp) W0 L elt fe)
    (hy : X.N[i]? = some y := by rfl) (hyl : X.env.scope.names.lookup y = some .local := by rfl) (hsw : swapsWith (.ListComp elt [⟨.Name x p, iter, ifs, 0⟩] scope pos) (some (.Name y py)) spos.line X.env = pure true := by exact sw_true rfl rfl rfl (by decide +kernel))
    (hj : X.N[j]? = some x := by rfl) (hx : Loc (relS scope X.env.scope) x := by first | exact .inl rfl | exact .inr rfl) (hf : (scope.names.lookup x == some NameKind.cell) = true ∨ (relS scope X.env.scope).names.lookup x = some .local := by first | exact .inl rfl | exact .inr rfl)
    (hs : ∀ x, foldedSetIterable iter X.env x = pure x := by intro _; rfl) : VS X W L (.Assign [.Name y py] (.ListComp elt [⟨.Name x p, iter, ifs, 0⟩] scope pos) spos) (sSet i (eComp j fi ct fe)) := by
  refine ⟨PS.weak (ps_comp hc hN hi ok ht he hy hyl hsw hj hx hf hs) fun σ H D h => ?_⟩
  exact rdSE_bind h fun ll S ρ S1 v H1 r ρ1 r1 t1 q1 g => set_go r1 t1 q1 g
theorem vs_letC {i j : Nat} {x y : Str} {p py spos : Pos} {scope : Scope} (hc : X.calm = true) (hN : X.N.Nodup) (hi : VI X W L (.Name x p) iter fi) (ok : blkC X.N X.env.scope scope [(x, j)] = true)
    (ht : ∀ (s : Shared) (H : Hp) (C : Addr) (cl : List (Str × Addr)) (fp : List Addr), VTs (X.blk s H scope (compEnvC scope cl C X.env) fp) W0 L ifs ct)
    (he : ∀ (s : Shared) (H : Hp) (C : Addr) (cl : List (Str × Addr)) (fp : List Addr), VE (X.blk s H scope (compEnvC scope cl C X.env) fp) W0 L elt fe)
    (hy : X.N[i]? = some y := by rfl) (hyl : X.env.scope.names.lookup y = some .local := by rfl) (hsw : swapsWith (.ListComp elt [⟨.Name x p, iter, ifs, 0⟩] scope pos) (some (.Name y py)) spos.line X.env = pure true := by exact sw_true rfl rfl rfl (by decide +kernel))
    (hj : X.N[j]? = some x := by rfl) (hx : Loc (relS scope X.env.scope) x := by first | exact .inl rfl | exact .inr rfl) (hf : (scope.names.lookup x == some NameKind.cell) = true ∨ (relS scope X.env.scope).names.lookup x = some .local := by first | exact .inl rfl | exact .inr rfl)
    (hs : ∀ x, foldedSetIterable iter X.env x = pure x := by intro _; rfl) : VS X W L (.Assign [.Name y py] (.ListComp elt [⟨.Name x p, iter, ifs, 0⟩] scope pos) spos) (sLet i (eComp j fi ct fe)) := by
  refine ⟨PS.weak (ps_comp hc hN hi ok ht he hy hyl hsw hj hx hf hs) fun σ H D h => ?_⟩
  exact rdSE_bind h fun ll S ρ S1 v H1 r ρ1 r1 t1 q1 g => let_go r1 t1 q1 g

/-! ### an own object changed by a method -/
abbrev PMut := D → List D → Option (D × D)
def rMut (K : PySem.W.Frag) (p : PMut) : V → List V → Hp → VK → Prop := fun x vs H Q => ∃ S a d ds d' r, x = .ref a ∧ S a = none ∧ Sub S H ∧ ObR K S H d a ∧ Reps K S ds vs ∧ p d ds = some (d', r) ∧ ∀ o v, ObR K S (upd H a o) d' a → Rep K S r v → Q v (upd H a o)
def isL : D → Bool
  | .lst _ => true
  | _ => false
def isDi : D → Bool
  | .dk _ => true
  | .dt _ => true
  | _ => false
def eMut (s : Nat) (k : D → Bool) (p : PMut) (fl : CL) : CE1 := fun ρ => match ρ[s]? with
  | some (.ow _ d0) => if k d0 = true then (fl ρ).bind fun a => match a.2[s]? with
      | some (.ow l d) => opt (owns a.1) fun ds => opt (p d ds) fun r => .ok (.sh r.2, a.2.set s (.ow l r.1))
      | _ => .stuck
    else .stuck
  | _ => .stuck
theorem mut_go {K : PySem.W.Frag} {s : Nat} {l : Bool} {d : D} {rs : List Res} {vs : List V} {p : PMut} {ds : List D} {r : D × D} {Q : VK} {a : Addr} (r1 : RR K L ll S1 ρ1 σ H1) (t1 : Tr S ρ σ H S1 ρ1 σ H1) (hK : K = X.K) (q1 : ResRs K H S1 ρ1 σ H1 rs vs) (es : ρ1[s]? = some (.ow l d)) (ea : σ[s]? = some (some (.ref a)))
    (eo : owns rs = some ds) (ep : p d ds = some r) (g : GoE X W L ll S ρ σ H (.ok (.sh r.2, ρ1.set s (.ow l r.1))) Q) : rMut K p (.ref a) vs H1 Q := by
  subst hK
  obtain ⟨S2, r2, t2, _, hd⟩ := freezes r1 t1 q1 eo
  obtain ⟨b, eb, n, ob, _⟩ := r2.ow s l d es
  rw [ea] at eb; cases eb
  refine ⟨S2, a, d, ds, r.1, r.2, rfl, n, r2.sub, ob, hd, ep, fun o v ob' rv => ?_⟩
  exact g S2 v (upd H1 a o) (r2.write es ea ob') (t2.write es ea) rv
theorem tyV_own {K : PySem.W.Frag} {d : D} {a : Addr} (ob : ObR K S H d a) : (isL d = true → tyV K "list" (.ref a) H) ∧ (isDi d = true → tyV K "dict" (.ref a) H) := by
  cases d <;> first | exact ob.elim | skip
  all_goals obtain ⟨vs, q, _⟩ := ob
  · exact ⟨fun _ => .inl ⟨rfl, _, .inl (.inl q)⟩, fun z => absurd z (by simp [isDi])⟩
  · exact ⟨fun z => absurd z (by simp [isL]), fun _ => .inr (.inr (.inl ⟨rfl, .inl ⟨_, q⟩⟩))⟩
  · exact ⟨fun z => absurd z (by simp [isL]), fun _ => .inr (.inr (.inl ⟨rfl, .inr ⟨_, q⟩⟩))⟩
theorem mutR_go {T : String} {k : D → Bool} {s : Nat} {p : PMut} {Q : VK} {r : V → List V → Hp → VK → Prop} (hk : ∀ {d : D} {S H : Hp} {a : Addr}, ObR X.K S H d a → k d = true → tyV X.K T (.ref a) H)
    (h : rdE X W L (eMut s k p fl) σ H Q) : ∃ v, σ[s]? = some (some v) ∧ tyV X.K T v H ∧ rdL X W L fl σ H fun xs H2 => rMut X.K p v xs H2 Q := by
  obtain ⟨ll, S, ρ, rr, g⟩ := h
  unfold eMut at g
  cases e0 : ρ[s]? with
  | none => rw [e0] at g; exact g.elim
  | some sl =>
    rw [e0] at g
    cases sl with
    | un => exact g.elim
    | sh d => exact g.elim
    | ow l0 d0 =>
      dsimp only at g
      obtain ⟨hk0, g⟩ := ite_go g
      obtain ⟨a, ea, n, ob, _⟩ := rr.ow s l0 d0 e0
      refine ⟨.ref a, ea, hk ob hk0, ll, S, ρ, rr, ?_⟩
      cases e1 : fl ρ with
      | stuck => rw [e1] at g; exact g
      | exc c ρ' => rw [e1] at g; exact g
      | ok b =>
        obtain ⟨rs, ρ1⟩ := b
        rw [e1] at g
        intro S1 vs H1 r1 t1 q1
        unfold R.bind at g
        dsimp only at g
        split at g
        · rename_i l d es
          obtain ⟨ds, eo, g⟩ := opt_some (Pr := fun r => GoE X W L ll S ρ σ H r Q) g (fun z => z)
          obtain ⟨r, ep, g⟩ := opt_some (Pr := fun r => GoE X W L ll S ρ σ H r Q) g (fun z => z)
          exact mut_go r1 t1 rfl q1 es ea eo ep g
        · exact g.elim
/-- x.m(e, ..) -/
theorem v_mut {T : String} {k : D → Bool} {s : Nat} {x name : Str} {apos px : Pos} {id : String} {p : PMut} {es : List Expr} (hk : ∀ {d : D} {S H : Hp} {a : Addr}, ObR X.K S H d a → k d = true → tyV X.K T (.ref a) H) (pa : PlainAttrs T) (slot : Slot T name id) (hty : typeOf (.builtin id) = pure (.type "method_descriptor")) (hm : MtR X id (rMut X.K p)) (ha : VA X W L (e :: es) fl)
    (hN : X.N[s]? = some x := by rfl) (hv : Vis X.env.scope x := by first | exact Or.inl rfl | exact Or.inr (Or.inl rfl) | exact Or.inr (Or.inr rfl)) (hd : (x == ("__debug__" : Str)) = false := by decide) (hcd : (x == ("__classdict__" : Str)) = false := by decide)
    (hbase : attributeBase (.Name x px) name X.env (eval (.Name x px) X.env) = eval (.Name x px) X.env := by rfl)
    (hfew : ((backTo pos (starEach (e :: es) X.env)).all (fun x => !x.1) && (backToKw pos (keywordEach [] X.env)).all (fun x => x.1.isSome)
      && decide ((e :: es).length + ([] : List Keyword).length + (if ([] : List Keyword).isEmpty then 0 else 1) < 30)) = true := by rfl)
    (hline : (apos.endLine == pos.line) = true := by rfl) (hs : starEach (e :: es) X.env = (false, eval e X.env) :: starEach es X.env := by rfl) (hplain : (backTo pos (starEach es X.env)).any (·.1) = false := by rfl) :
    VE X W L (.Call (.Attribute (.Name x px) name apos) (e :: es) [] pos) (eMut s k p fl) :=
  ⟨PE.weak (pe_bm pa slot hty hm (pe_var hN hv hd hcd) ha.pa hbase hfew hline hs hplain) fun σ H Q h => mutR_go (r := rMut X.K p) hk h⟩
/-- x.m() -/
theorem v_mut0 {T : String} {k : D → Bool} {s : Nat} {x name : Str} {apos px : Pos} {id : String} {p : PMut} (hk : ∀ {d : D} {S H : Hp} {a : Addr}, ObR X.K S H d a → k d = true → tyV X.K T (.ref a) H) (pa : PlainAttrs T) (slot : Slot T name id) (hty : typeOf (.builtin id) = pure (.type "method_descriptor")) (hm : MtR X id (rMut X.K p))
    (hN : X.N[s]? = some x := by rfl) (hv : Vis X.env.scope x := by first | exact Or.inl rfl | exact Or.inr (Or.inl rfl) | exact Or.inr (Or.inr rfl)) (hd : (x == ("__debug__" : Str)) = false := by decide) (hcd : (x == ("__classdict__" : Str)) = false := by decide)
    (hbase : attributeBase (.Name x px) name X.env (eval (.Name x px) X.env) = eval (.Name x px) X.env := by rfl) (hline : (apos.endLine == pos.line) = true := by rfl) :
    VE X W L (.Call (.Attribute (.Name x px) name apos) [] [] pos) (eMut s k p lNil) := by
  refine ⟨PE.weak (pe_bm0 pa slot hty hm (pe_var hN hv hd hcd) hbase hline) fun σ H Q h => ?_⟩
  obtain ⟨v, h1, h2, ll, S, ρ, rr, g⟩ := mutR_go (r := rMut X.K p) hk h
  exact ⟨v, h1, h2, g S [] H rr Tr.refl .nil⟩

/-! ### x[i] = e -/
/-- value, then place -/
def rSetM (K : PySem.W.Frag) (p : PMut) : TSet := fun x i v H Q => ∃ S a d di dv d' r, x = .ref a ∧ S a = none ∧ Sub S H ∧ ObR K S H d a ∧ Opd K S H di i ∧ Rep K S dv v ∧ p d [di, dv] = some (d', r) ∧ ∀ o, ObR K S (upd H a o) d' a → Q (upd H a o)
def sSub (s : Nat) (p : PMut) (fe fi : CE1) : CS := fun ρ => (fe ρ).bind fun a => match a.2[s]? with
  | some (.ow _ _) => (fi a.2).bind fun b => match b.2[s]? with
    | some (.ow l d) => opt a.1.own fun dv => opt (b.1.get b.2) fun di => opt (p d [di, dv]) fun r => .ok (.nx (b.2.set s (.ow l r.1)))
    | _ => .stuck
  | _ => .stuck
theorem vs_sub {s : Nat} {x : Str} {px pos' : Pos} {i : Expr} {p : PMut} {fi : CE1} (he : VE X W L e fe) (hi : VE X W L i fi) (hset : PSet X (rSetM X.K p))
    (hN : X.N[s]? = some x := by rfl) (hv : Vis X.env.scope x := by first | exact Or.inl rfl | exact Or.inr (Or.inl rfl) | exact Or.inr (Or.inr rfl)) (hd : (x == ("__debug__" : Str)) = false := by decide) (hcd : (x == ("__classdict__" : Str)) = false := by decide)
    (ha : ∀ v, assign (.Subscript (.Name x px) i pos') X.env v = (do
      let ov ← holding [v] (eval (.Name x px) X.env)
      let iv ← holding [v, ov] (eval i X.env)
      standAt pos'
      holding [v, ov, iv] (setItem ov iv v)
      release [v, ov, iv] []) := by intro _; rfl)
    (hs : swapsWithSole [.Subscript (.Name x px) i pos'] e pos.line X.env = pure false := by rfl) (hw : swappedStores [.Subscript (.Name x px) i pos'] e X.env = pure none := by rfl)
    (h1 : (assignEach [.Subscript (.Name x px) i pos'] X.env).map (·.2) = [assign (.Subscript (.Name x px) i pos') X.env] := by rfl) : VS X W L (.Assign [.Subscript (.Name x px) i pos'] e pos) (sSub s p fe fi) := by
  refine ⟨PS.weak (ps_asg he.pe (pg_sub (pe_var hN hv hd hcd) hi.pe hset ha) hs hw h1) fun σ H D h => ?_⟩
  refine rdSE_bind h fun ll S ρ S1 v H1 r ρ1 r1 t1 q1 g => ?_
  dsimp only at g
  cases e0 : ρ1[s]? with
  | none => rw [e0] at g; exact g.elim
  | some sl =>
    rw [e0] at g
    cases sl with
    | un => exact g.elim
    | sh d => exact g.elim
    | ow l0 d0 =>
      dsimp only at g
      obtain ⟨a, ea, _⟩ := r1.ow s l0 d0 e0
      refine ⟨.ref a, ea, ll, S1, ρ1, r1, ?_⟩
      cases e2 : fi ρ1 with
      | stuck => rw [e2] at g; exact g.elim
      | exc c ρ2 =>
        rw [e2] at g
        exact GoX.back g t1
      | ok b =>
        obtain ⟨ri, ρ2⟩ := b
        rw [e2] at g
        intro S2 vi H2 r2 t2 q2
        unfold R.bind at g
        dsimp only at g
        split at g
        · rename_i l d es
          obtain ⟨dv, eo, g⟩ := opt_some (Pr := fun r => GoS X W L ll S ρ σ H r D) g (fun z => z)
          obtain ⟨di, ei, g⟩ := opt_some (Pr := fun r => GoS X W L ll S ρ σ H r D) g (fun z => z)
          obtain ⟨r', ep, g⟩ := opt_some (Pr := fun r => GoS X W L ll S ρ σ H r D) g (fun z => z)
          obtain ⟨S3, r3, t3, ex, rv⟩ := own_rep' r2 (t1.trans t2) (q1.shift t2) eo
          obtain ⟨b, eb, n, ob, _⟩ := r3.ow s l d es
          rw [ea] at eb; cases eb
          refine ⟨S3, a, d, di, dv, r'.1, r'.2, rfl, n, r3.sub, ob, ?_, rv, ep, fun o ob' => ?_⟩
          · exact (q2.opd r2 ei).mono (Sub.of_ex ex)
          · exact g S3 σ (upd H2 a o) (r3.write es ea ob') (t3.write es ea)
        · exact g.elim
end
end QW

end
section
/-! operations -/
namespace QW
open PySem PySem.Spec L2
/-! ### data as the library has it -/
mutual
def toPy : D → Option PyData
  | .non => some .none
  | .bl b => some (.bool b)
  | .int i => some (.int i)
  | .str s => some (.str (tS s))
  | .lst xs => (toPys xs).map .list
  | .clst xs => (toPys xs).map .list
  | .tup xs => (toPys xs).map .tuple
  | .ctup xs => (toPys xs).map .tuple
  | .dk _ => none
  | .dt _ => none
def toPys : List D → Option (List PyData)
  | [] => some []
  | d :: ds => (toPy d).bind fun p => (toPys ds).map (p :: ·)
end
section
variable {K : PySem.W.Frag} {S H : Hp}
mutual
theorem Rep.dp : ∀ {d : D} {v : V} {p : PyData}, Rep K H d v → toPy d = some p → Dp K H v p
  | _, _, _, .non, e => by simp only [toPy, toPys] at e; cases e; exact .non
  | _, _, _, .bl b, e => by simp only [toPy, toPys] at e; cases e; exact .bl b
  | _, _, _, .int i, e => by simp only [toPy, toPys] at e; cases e; exact .int i
  | _, _, _, .str s, e => by simp only [toPy, toPys] at e; cases e; exact .str _
  | _, _, _, .lst (xs := xs) h q, e => by
    obtain ⟨ps, e1, rfl⟩ := Option.map_eq_some_iff.mp (by simpa only [toPy] using e)
    exact .lst (.inl (.inl h)) (Reps.dp q e1)
  | _, _, _, .clst (xs := xs) h q, e => by
    obtain ⟨ps, e1, rfl⟩ := Option.map_eq_some_iff.mp (by simpa only [toPy] using e)
    exact .lst h (Reps.dp q e1)
  | _, _, _, .tup (xs := xs) h q, e => by
    obtain ⟨ps, e1, rfl⟩ := Option.map_eq_some_iff.mp (by simpa only [toPy] using e)
    exact .tup (.inl (.inl h)) (Reps.dp q e1)
  | _, _, _, .ctup (xs := xs) h q, e => by
    obtain ⟨ps, e1, rfl⟩ := Option.map_eq_some_iff.mp (by simpa only [toPy] using e)
    exact .tup h (Reps.dp q e1)
  | _, _, _, .dk _ _, e => by simp only [toPy] at e; cases e
  | _, _, _, .dt _ _, e => by simp only [toPy] at e; cases e
theorem Reps.dp : ∀ {ds : List D} {vs : List V} {ps : List PyData}, Reps K H ds vs → toPys ds = some ps → DpAll K H vs ps
  | _, _, _, .nil, e => by simp only [toPy, toPys] at e; cases e; exact .nil
  | _, _, _, .cons (d := d) (ds := ds) r q, e => by
    obtain ⟨p, e1, e2⟩ := Option.bind_eq_some_iff.mp (by simpa only [toPys] using e)
    obtain ⟨ps, e3, rfl⟩ := Option.map_eq_some_iff.mp e2
    exact .cons (Rep.dp r e1) (Reps.dp q e3)
end
end
section
variable {X : Cx}
/-- a rule by cases over the data -/
theorem op_of {f : Value → Value → Sem Value} {p : P2} (h : ∀ dx dy r S x y H Q, Sub S H → Opd X.K S H dx x → Opd X.K S H dy y → p dx dy = some r → PrimQ X.K S H r Q → ∃ rr : R2, OpR X f rr ∧ rr x y H Q) : OpR X f (rP2 X.K p) := by
  intro pins s σ H x y v u Q I rx ry hh
  obtain ⟨S, dx, dy, r, hs, hx, hy, e, k⟩ := hh
  obtain ⟨rr, ho, q⟩ := h dx dy r S x y H Q hs hx hy e k
  exact ho pins s σ H x y v u Q I rx ry q
theorem tS_len (t : List Nat) : (tS t).length = t.length := by simp [tS, Str.length]
theorem tS_app (a b : List Nat) : tS a ++ tS b = tS (a ++ b) := by
  show Str.mk _ = Str.mk _
  simp [tS]
def addP : P2 := fun x y => match x, y with
  | .int i, .int j => some (.sh (.int (i + j)))
  | .str a, .str b => if a.length + b.length ≤ 1000000 then some (.sh (.str (a ++ b))) else none
  | .lst a, .lst b => if a.length + b.length ≤ 100000 then some (.ow (.lst (a ++ b))) else none
  | .tup a, .tup b => if a.length + b.length ≤ 100000 then some (if a.isEmpty = true then .sh (.tup b) else if b.isEmpty = true then .sh (.tup a) else .ow (.tup (a ++ b))) else none
  | _, _ => none
theorem sz6 {n : Nat} (h : n ≤ 1000000) : n ≤ sizeLine := Nat.le_trans h (by decide)
theorem isE {α : Type} {xs : List α} : xs.isEmpty = true ↔ xs = [] := by cases xs <;> simp
theorem Reps.nilIff {K : PySem.W.Frag} {S : Hp} {xs : List D} {vs : List V} (h : Reps K S xs vs) : xs = [] ↔ vs = [] := by
  cases h <;> simp
theorem addP_ok : OpR X (binaryOp .Add) (rP2 X.K addP) := op_of fun dx dy r S x y H Q hs hx hy e k => by
  unfold addP at e
  split at e
  · cases e
    exact ⟨_, op_add, _, _, hx.int, hy.int, k _ (.int _)⟩
  · rename_i a b
    split at e
    · rename_i hl
      cases e
      refine ⟨_, op_add_str, _, _, hx.str, hy.str, by rw [tS_len, tS_len]; exact sz6 hl, ?_⟩
      rw [tS_app]
      exact k _ (.str _)
    · cases e
  · rename_i a b
    split at e
    · rename_i hl
      cases e
      obtain ⟨p, vs, rfl, h1, h2⟩ := hx.lst hs
      obtain ⟨q, ws, rfl, h3, h4⟩ := hy.lst hs
      exact ⟨_, op_cat, p, q, vs, ws, rfl, rfl, h1, h3, by rw [← h2.length, ← h4.length]; exact sz5 hl, fun z hz => k z _ hz (.inl ⟨_, upd_same, h2.append h4⟩)⟩
    · cases e
  · rename_i a b
    split at e
    · rename_i hl
      obtain ⟨p, vs, rfl, h1, h2⟩ := hx.tup hs
      obtain ⟨q, ws, rfl, h3, h4⟩ := hy.tup hs
      have ox : Rep X.K S (.tup a) (.ref p) := by
        rcases hx with hx | ⟨_, _, hx⟩
        · exact hx
        · exact hx.elim
      have oy : Rep X.K S (.tup b) (.ref q) := by
        rcases hy with hy | ⟨_, _, hy⟩
        · exact hy
        · exact hy.elim
      refine ⟨_, op_catA, p, q, vs, ws, rfl, rfl, .inl (.inl h1), .inl (.inl h3), by rw [← h2.length, ← h4.length]; exact sz5 hl, fun z => ?_, fun z1 z2 => ?_, fun z1 z2 w hw => ?_⟩
      · have : a = [] := h2.nilIff.mpr z
        rw [if_pos (isE.mpr this)] at e
        cases e
        exact k _ oy
      · have n1 : a ≠ [] := fun z => z1 (h2.nilIff.mp z)
        have : b = [] := h4.nilIff.mpr z2
        rw [if_neg (fun z => n1 (isE.mp z)), if_pos (isE.mpr this)] at e
        cases e
        exact k _ ox
      · have n1 : a ≠ [] := fun z => z1 (h2.nilIff.mp z)
        have n2 : b ≠ [] := fun z => z2 (h4.nilIff.mp z)
        rw [if_neg (fun z => n1 (isE.mp z)), if_neg (fun z => n2 (isE.mp z))] at e
        cases e
        exact k w _ hw (.inr ⟨_, _, rfl, upd_same, h2.append h4⟩)
    · cases e
  · cases e
def na2 {p : P2} (h : ∀ dx dy r, p dx dy = some r → ∀ i, r ≠ .al i) : NoAl2 p := fun dx dy i e => h dx dy _ e i rfl
theorem addP_na : NoAl2 addP := na2 fun dx dy r e i z => by
  subst z
  unfold addP at e
  split at e
  · cases e
  · split at e <;> cases e
  · split at e <;> cases e
  · split at e
    · split at e
      · cases e
      · split at e <;> cases e
    · cases e
  · cases e
def subP : P2 := pV fun x y => match x, y with
  | .int i, .int j => some (.int (i - j))
  | _, _ => none
theorem pV_ok {f : Value → Value → Sem Value} {p : D → D → Option D} (h : ∀ dx dy r S x y H Q, Sub S H → Opd X.K S H dx x → Opd X.K S H dy y → p dx dy = some r → (∀ v, Rep X.K S r v → Q v H) → ∃ rr : R2, OpR X f rr ∧ rr x y H Q) : OpR X f (rP2 X.K (pV p)) :=
  op_of fun dx dy r S x y H Q hs hx hy e k => by
    obtain ⟨d, e1, rfl⟩ := Option.map_eq_some_iff.mp e
    exact h dx dy d S x y H Q hs hx hy e1 k
theorem pB_ok {f : Value → Value → Sem Value} {p : D → D → Option Bool} (h : ∀ dx dy b S x y H Q, Sub S H → Opd X.K S H dx x → Opd X.K S H dy y → p dx dy = some b → Q (.bl b) H → ∃ rr : R2, OpR X f rr ∧ rr x y H Q) : OpR X f (rP2 X.K (pB p)) :=
  op_of fun dx dy r S x y H Q hs hx hy e k => by
    obtain ⟨d, e1, rfl⟩ := Option.map_eq_some_iff.mp e
    exact h dx dy d S x y H Q hs hx hy e1 (k _ (.bl d))
theorem subP_ok : OpR X (binaryOp .Sub) (rP2 X.K subP) := pV_ok fun dx dy r S x y H Q hs hx hy e k => by
  split at e
  · cases e
    exact ⟨_, op_sub, _, _, hx.int, hy.int, k _ (.int _)⟩
  · cases e
/-- a text so many times -/
def manyT (t : List Nat) (n : Int) : List Nat := (List.replicate n.toNat t).flatten
theorem mul_tS (t : List Nat) (n : Int) : Txt.mul (tS t) n = tS (manyT t n) := by
  unfold Txt.mul manyT
  by_cases h1 : n < 1
  · rw [if_pos h1, show n.toNat = 0 by omega]
    rfl
  · rw [if_neg h1]
    by_cases h2 : (n == 1 || (tS t).length == 0) = true
    · rw [if_pos h2]
      rw [tS_len] at h2
      rcases Bool.or_eq_true _ _ ▸ h2 with h3 | h3
      · rw [beq_iff_eq.mp h3]
        simp
      · have : t = [] := List.eq_nil_of_length_eq_zero (beq_iff_eq.mp h3)
        subst this
        congr 1
        induction n.toNat with
        | zero => rfl
        | succ m ih => rw [List.replicate_succ, List.flatten_cons, ← ih]; rfl
    · rw [if_neg h2]
      have : ∀ (m : Nat) (acc : List Nat), (List.replicate m t.toArray).foldl (· ++ ·) acc.toArray = (acc ++ (List.replicate m t).flatten).toArray := by
        intro m
        induction m with
        | zero => intro acc; simp
        | succ m ih =>
          intro acc
          rw [List.replicate_succ, List.replicate_succ, List.foldl_cons, List.flatten_cons]
          rw [show acc.toArray ++ t.toArray = (acc ++ t).toArray by simp, ih, List.append_assoc]
      have h4 := this n.toNat []
      show Str.mk _ = Str.mk _
      rw [List.nil_append] at h4
      rw [← h4]
      rfl
theorem op_mulT : OpR X (binaryOp .Mult) (fun x y H Q => ∃ (t : List Nat) (n : Int), x = .str (tS t) ∧ y = .int n ∧ (n < 1000000 ∧ t.length * n.toNat ≤ 1000000 ∧ -1000000 < n) ∧ Q (.str (tS (manyT t n))) H) := by
  intro pins s σ H x y v u Q I rx ry hh
  obtain ⟨t, n, rfl, rfl, hl, k⟩ := hh
  obtain ⟨t1, rfl⟩ := rx
  obtain ⟨t2, rfl⟩ := ry
  have ok : MulOk (tS t) n := by
    refine ⟨?_, fun h1 h2 => ?_, fun h1 h2 => ?_⟩
    · rw [decide_eq_false (show ¬ n < -(2 ^ 63 : Int) by omega), decide_eq_false (show ¬ n ≥ (2 ^ 63 : Int) by omega)]
      rfl
    · rw [tS_len]
      have h3 : (t.length : Int) * n ≤ 1000000 := by
        have := hl.2.1
        have e1 : (n.toNat : Int) = n := by omega
        have e2 : ((t.length * n.toNat : Nat) : Int) = (t.length : Int) * n := by rw [Int.natCast_mul, e1]
        omega
      have h4 : (t.length : Int) ≤ (2 ^ 63 - 1) / n := by
        rw [Int.le_ediv_iff_mul_le (by omega)]
        omega
      omega
    · rw [tS_len]
      have h3 := hl.2.1
      unfold Builtin.Str.tooLong
      exact decide_eq_false (by have := sz6 h3; omega)
  exact PySem.SB.mul ok fun t' tk => ⟨.str (Txt.mul (tS t) n), H, I.tok _, ⟨_, rfl⟩, by rw [mul_tS]; exact k⟩
/-- products: of numbers, of a list or a text by a number -/
def mulP : P2 := fun x y => match x, y with
  | .int i, .int j => if i.natAbs.log2 + j.natAbs.log2 < 1000000 then some (.sh (.int (i * j))) else none
  | .lst xs, .int k => if k < 100000 ∧ xs.length * k.toNat ≤ 100000 ∧ -100000 < k then some (.ow (.lst (List.replicate k.toNat xs).flatten)) else none
  | .str t, .int n => if n < 1000000 ∧ t.length * n.toNat ≤ 1000000 ∧ -1000000 < n then some (.sh (.str (manyT t n))) else none
  | _, _ => none
theorem Reps.rep {K : PySem.W.Frag} {S : Hp} {xs : List D} {vs : List V} (h : Reps K S xs vs) : ∀ n, Reps K S (List.replicate n xs).flatten (List.replicate n vs).flatten
  | 0 => .nil
  | n + 1 => by
    simp only [List.replicate_succ, List.flatten_cons]
    exact h.append (Reps.rep h n)
theorem mulP_ok : OpR X (binaryOp .Mult) (rP2 X.K mulP) := op_of fun dx dy r S x y H Q hs hx hy e k => by
  unfold mulP at e
  split at e
  · split at e
    · rename_i hl
      cases e
      exact ⟨_, op_mulW, _, _, hx.int, hy.int, hl, k _ (.int _)⟩
    · cases e
  · split at e
    · rename_i xs n hl
      cases e
      obtain ⟨p, vs, rfl, h1, h2⟩ := hx.lst hs
      exact ⟨_, op_rep, p, n, vs, rfl, hy.int, h1, by omega, by omega, by rw [← h2.length]; exact sz5 hl.2.1, fun z hz => k z _ hz (.inl ⟨_, upd_same, h2.rep _⟩)⟩
    · cases e
  · split at e
    · rename_i t n hl
      cases e
      exact ⟨_, op_mulT, t, n, hx.str, hy.int, hl, k _ (.str _)⟩
    · cases e
  · cases e
theorem mulP_na : NoAl2 mulP := na2 fun dx dy r e i z => by
  subst z
  unfold mulP at e
  split at e
  · split at e <;> cases e
  · split at e <;> cases e
  · split at e <;> cases e
  · cases e
def modP : P2 := pV fun x y => match x, y with
  | .int i, .int j => if 0 < j then some (.int (i % j)) else none
  | _, _ => none
theorem modP_ok : OpR X (binaryOp .Mod) (rP2 X.K modP) := pV_ok fun dx dy r S x y H Q hs hx hy e k => by
  split at e
  · split at e
    · rename_i hl
      cases e
      exact ⟨_, op_mod, _, _, hx.int, hy.int, hl, k _ (.int _)⟩
    · cases e
  · cases e
def fdivP : P2 := pV fun x y => match x, y with
  | .int i, .int j => if 0 < j ∧ j.natAbs.log2 < 9000 then some (.int (i / j)) else none
  | _, _ => none
theorem fdivP_ok : OpR X (binaryOp .FloorDiv) (rP2 X.K fdivP) := pV_ok fun dx dy r S x y H Q hs hx hy e k => by
  split at e
  · split at e
    · rename_i hl
      cases e
      exact ⟨_, op_fdivW, _, _, hx.int, hy.int, hl, k _ (.int _)⟩
    · cases e
  · cases e
def powP : P2 := pV fun x y => match x, y with
  | .int i, .int j => if 0 ≤ j ∧ j ≤ 1000 ∧ i.natAbs < 2 ^ 64 then some (.int (i ^ j.toNat)) else none
  | _, _ => none
theorem powP_ok : OpR X (binaryOp .Pow) (rP2 X.K powP) := pV_ok fun dx dy r S x y H Q hs hx hy e k => by
  split at e
  · split at e
    · rename_i hl
      cases e
      exact ⟨_, op_pow, _, _, hx.int, hy.int, ⟨hl.1, by omega, hl.2.2⟩, k _ (.int _)⟩
    · cases e
  · cases e
def negP : P1 := fun x => match x with
  | .int i => some (.sh (.int (-i)))
  | _ => none
theorem negP_ok : UnR X (unaryOp .USub) (rP1 X.K negP) := by
  intro pins s σ H x v Q I rx hh
  obtain ⟨S, dx, r, hs, hx, e, k⟩ := hh
  unfold negP at e
  split at e
  · cases e
    exact un_neg pins s σ H x v Q I rx ⟨_, hx.int, k _ (.int _)⟩
  · cases e
theorem negP_na : NoAl1 negP := fun dx i e => by
  unfold negP at e
  split at e <;> cases e
/-! comparisons -/
def eqD (x y : D) : Option Bool := (toPy x).bind fun p => (toPy y).bind fun q => if SeqAt.shaped p = true ∧ SeqAt.shaped q = true then some (PyData.eqv p q) else none
def eqP : P2 := pB eqD
def neP : P2 := pB fun x y => (eqD x y).map (!·)
theorem eqD_of {S H : Hp} {dx dy : D} {x y : V} {b : Bool} (hs : Sub S H) (hx : Opd X.K S H dx x) (hy : Opd X.K S H dy y) (e : eqD dx dy = some b) : ∃ p q, Dp X.K H x p ∧ Dp X.K H y q ∧ SeqAt.shaped p = true ∧ SeqAt.shaped q = true ∧ b = PyData.eqv p q := by
  unfold eqD at e
  obtain ⟨p, e1, e⟩ := Option.bind_eq_some_iff.mp e
  obtain ⟨q, e2, e⟩ := Option.bind_eq_some_iff.mp e
  split at e
  · rename_i h
    cases e
    exact ⟨p, q, (hx.rep hs).dp e1, (hy.rep hs).dp e2, h.1, h.2, rfl⟩
  · cases e
theorem eqP_ok (hu : X.A.units + 64 < cLine) : OpR X (compareOp .Eq) (rP2 X.K eqP) := pB_ok fun dx dy b S x y H Q hs hx hy e k => by
  obtain ⟨p, q, h1, h2, h3, h4, rfl⟩ := eqD_of hs hx hy e
  exact ⟨_, op_eqD hu, p, q, h1, h2, h3, h4, k⟩
theorem neP_ok (hu : X.A.units + 64 < cLine) : OpR X (compareOp .NotEq) (rP2 X.K neP) := pB_ok fun dx dy b S x y H Q hs hx hy e k => by
  obtain ⟨b', e', rfl⟩ := Option.map_eq_some_iff.mp e
  obtain ⟨p, q, h1, h2, h3, h4, rfl⟩ := eqD_of hs hx hy e'
  exact ⟨_, op_neD hu, p, q, h1, h2, h3, h4, k⟩
def ints2 (f : Int → Int → Bool) : D → D → Option Bool := fun x y => match x, y with
  | .int i, .int j => some (f i j)
  | _, _ => none
theorem ints2_ok {f : Value → Value → Sem Value} {g : Int → Int → Bool} (ho : OpR X f (rI0 fun i j => .bl (g i j))) : OpR X f (rP2 X.K (pB (ints2 g))) := pB_ok fun dx dy b S x y H Q hs hx hy e k => by
  unfold ints2 at e
  split at e
  · cases e
    exact ⟨_, ho, _, _, hx.int, hy.int, k⟩
  · cases e
def ltP : P2 := pB (ints2 fun i j => decide (i < j))
def leP : P2 := pB (ints2 fun i j => decide (i ≤ j))
def gtP : P2 := pB (ints2 fun i j => decide (j < i))
def geP : P2 := pB (ints2 fun i j => decide (j ≤ i))
theorem ltP_ok : OpR X (compareOp .Lt) (rP2 X.K ltP) := ints2_ok op_lt
theorem leP_ok : OpR X (compareOp .LtE) (rP2 X.K leP) := ints2_ok op_le
theorem gtP_ok : OpR X (compareOp .Gt) (rP2 X.K gtP) := ints2_ok op_gt
theorem geP_ok : OpR X (compareOp .GtE) (rP2 X.K geP) := ints2_ok op_ge
def isNP : P2 := pB fun x y => match x, y with
  | .non, .non => some true
  | _, .non => some false
  | _, _ => none
def noNP : P2 := pB fun x y => match x, y with
  | .non, .non => some false
  | _, .non => some true
  | _, _ => none
theorem Opd.non_iff {K : PySem.W.Frag} {S H : Hp} {d : D} {v : V} (h : Opd K S H d v) : v = .non ↔ d = .non := by
  rcases h with h | ⟨a, rfl, h⟩
  · cases h <;> simp
  · cases d <;> first | exact h.elim | simp
theorem isNP_ok : OpR X (compareOp .Is) (rP2 X.K isNP) := pB_ok fun dx dy b S x y H Q hs hx hy e k => by
  split at e
  · cases e
    exact ⟨_, op_isN, hy.non, by rw [decide_eq_true hx.non]; exact k⟩
  · rename_i n
    cases e
    exact ⟨_, op_isN, hy.non, by rw [decide_eq_false fun z => n (hx.non_iff.mp z)]; exact k⟩
  · cases e
theorem noNP_ok : OpR X (compareOp .IsNot) (rP2 X.K noNP) := pB_ok fun dx dy b S x y H Q hs hx hy e k => by
  split at e
  · cases e
    exact ⟨_, op_notN, hy.non, by rw [decide_eq_true hx.non]; exact k⟩
  · rename_i n
    cases e
    exact ⟨_, op_notN, hy.non, by rw [decide_eq_false fun z => n (hx.non_iff.mp z)]; exact k⟩
  · cases e
/-- in a list, a tuple: by == one after another -/
def inD (x : D) (ys : List D) : Option Bool := (toPy x).bind fun p => (toPys ys).bind fun qs => if SeqAt.shaped p = true ∧ SeqAt.shaped (.list qs) = true then some (qs.any fun q => PyData.eqv q p) else none
def inP : P2 := pB fun x y => match y with
  | .lst ys => inD x ys
  | _ => none
def niP : P2 := pB fun x y => match y with
  | .lst ys => (inD x ys).map (!·)
  | _ => none
theorem inD_of {S H : Hp} {dx : D} {ys : List D} {x y : V} {b : Bool} (hs : Sub S H) (hx : Opd X.K S H dx x) (hy : Opd X.K S H (.lst ys) y) (e : inD dx ys = some b) : ∃ p qs, Dp X.K H x p ∧ Dp X.K H y (.list qs) ∧ SeqAt.shaped p = true ∧ SeqAt.shaped (.list qs) = true ∧ b = qs.any fun q => PyData.eqv q p := by
  unfold inD at e
  obtain ⟨p, e1, e⟩ := Option.bind_eq_some_iff.mp e
  obtain ⟨q, e2, e⟩ := Option.bind_eq_some_iff.mp e
  split at e
  · rename_i h
    cases e
    exact ⟨p, q, (hx.rep hs).dp e1, (hy.rep hs).dp (by simp only [toPy, e2, Option.map_some]), h.1, h.2, rfl⟩
  · cases e
theorem inP_ok (hu : X.A.units + 65 < cLine) : OpR X (compareOp .In) (rP2 X.K inP) := pB_ok fun dx dy b S x y H Q hs hx hy e k => by
  split at e
  · obtain ⟨p, q, h1, h2, h3, h4, rfl⟩ := inD_of hs hx hy e
    exact ⟨_, op_inD hu, p, q, h1, h2, h3, h4, k⟩
  · cases e
theorem niP_ok (hu : X.A.units + 65 < cLine) : OpR X (compareOp .NotIn) (rP2 X.K niP) := pB_ok fun dx dy b S x y H Q hs hx hy e k => by
  split at e
  · obtain ⟨b', e', rfl⟩ := Option.map_eq_some_iff.mp e
    obtain ⟨p, q, h1, h2, h3, h4, rfl⟩ := inD_of hs hx hy e'
    exact ⟨_, op_notInD hu, p, q, h1, h2, h3, h4, k⟩
  · cases e
end
end QW

end
section
/-! subscripts, slices, built-ins, methods, stores -/
namespace QW
open PySem PySem.Spec L2
section
variable {X : Cx}
/-! dicts -/
section
variable {K : PySem.W.Frag} {S H : Hp} {κ κ' : Type} [DecidableEq κ] [DecidableEq κ']
def valD (kvs : List (κ × D)) (k : κ) : Option D := (kvs.find? fun kv => decide (kv.1 = k)).map (·.2)
def putD (kvs : List (κ × D)) (k : κ) (d : D) : List (κ × D) := if (kvs.any fun kv => decide (kv.1 = k)) = true then kvs.map (fun kv => if kv.1 = k then (kv.1, d) else kv) else kvs ++ [(k, d)]
def dropD (kvs : List (κ × D)) (k : κ) : List (κ × D) := kvs.filter fun kv => decide (kv.1 ≠ k)
end
theorem keyOf_eq {a b : PKey} : keyOf a = keyOf b ↔ a = b := ⟨keyOf_inj, fun h => by rw [h]⟩
theorem keysOf_eq : ∀ {a b : List PKey}, a.map keyOf = b.map keyOf ↔ a = b
  | [], [] => by simp
  | [], _ :: _ => by simp
  | _ :: _, [] => by simp
  | x :: xs, y :: ys => by simp [keyOf_eq, keysOf_eq]
section
variable {K : PySem.W.Frag} {S H : Hp}
theorem RepK.val {k : PKey} : ∀ {kvs : List (PKey × D)} {ws : List (Key × V)}, RepK K S kvs ws → (∀ d, valD kvs k = some d → ∃ v, valV ws (keyOf k) = some v ∧ Rep K S d v) ∧ (valD kvs k = none → valV ws (keyOf k) = none)
  | _, _, .nil => by simp [valD, valV]
  | _, _, .cons (k := k') (d := d) (v := v) (ds := ds) (vs := vs) r q => by
    have ih := RepK.val (k := k) q
    by_cases h : k' = k
    · subst h
      have e1 : valD ((k', d) :: ds) k' = some d := by simp [valD]
      have e2 : valV ((keyOf k', v) :: vs) (keyOf k') = some v := valV_pos rfl
      rw [e1, e2]
      exact ⟨fun d' z => by cases z; exact ⟨v, rfl, r⟩, fun z => nomatch z⟩
    · have e1 : valD ((k', d) :: ds) k = valD ds k := by simp [valD, h]
      have e2 : valV ((keyOf k', v) :: vs) (keyOf k) = valV vs (keyOf k) := valV_neg fun z => h (keyOf_inj z)
      rw [e1, e2]
      exact ih
theorem RepT.val {k : List PKey} : ∀ {kvs : List (List PKey × D)} {ws : List (List Key × V)}, RepT K S kvs ws → (∀ d, valD kvs k = some d → ∃ v, valV ws (k.map keyOf) = some v ∧ Rep K S d v) ∧ (valD kvs k = none → valV ws (k.map keyOf) = none)
  | _, _, .nil => by simp [valD, valV]
  | _, _, .cons (k := k') (d := d) (v := v) (ds := ds) (vs := vs) r q => by
    have ih := RepT.val (k := k) q
    by_cases h : k' = k
    · subst h
      have e1 : valD ((k', d) :: ds) k' = some d := by simp [valD]
      have e2 : valV ((k'.map keyOf, v) :: vs) (k'.map keyOf) = some v := valV_pos rfl
      rw [e1, e2]
      exact ⟨fun d' z => by cases z; exact ⟨v, rfl, r⟩, fun z => nomatch z⟩
    · have e1 : valD ((k', d) :: ds) k = valD ds k := by simp [valD, h]
      have e2 : valV ((k'.map keyOf, v) :: vs) (k.map keyOf) = valV vs (k.map keyOf) := valV_neg fun z => h (keysOf_eq.mp z)
      rw [e1, e2]
      exact ih
theorem RepK.any {k : PKey} : ∀ {kvs : List (PKey × D)} {ws : List (Key × V)}, RepK K S kvs ws → (kvs.any fun kv => decide (kv.1 = k)) = ws.any fun kv => decide (kv.1 = keyOf k)
  | _, _, .nil => rfl
  | _, _, .cons r q => by
    rw [List.any_cons, List.any_cons, RepK.any q]
    congr 1
    exact decide_eq_decide.mpr keyOf_eq.symm
theorem RepT.any {k : List PKey} : ∀ {kvs : List (List PKey × D)} {ws : List (List Key × V)}, RepT K S kvs ws → (kvs.any fun kv => decide (kv.1 = k)) = ws.any fun kv => decide (kv.1 = k.map keyOf)
  | _, _, .nil => rfl
  | _, _, .cons r q => by
    rw [List.any_cons, List.any_cons, RepT.any q]
    congr 1
    exact decide_eq_decide.mpr keysOf_eq.symm
theorem RepK.snoc {k : PKey} {d : D} {v : V} (h : Rep K S d v) : ∀ {kvs : List (PKey × D)} {ws : List (Key × V)}, RepK K S kvs ws → RepK K S (kvs ++ [(k, d)]) (ws ++ [(keyOf k, v)])
  | _, _, .nil => .cons h .nil
  | _, _, .cons r q => .cons r (RepK.snoc h q)
theorem RepT.snoc {k : List PKey} {d : D} {v : V} (h : Rep K S d v) : ∀ {kvs : List (List PKey × D)} {ws : List (List Key × V)}, RepT K S kvs ws → RepT K S (kvs ++ [(k, d)]) (ws ++ [(k.map keyOf, v)])
  | _, _, .nil => .cons h .nil
  | _, _, .cons r q => .cons r (RepT.snoc h q)
theorem RepK.repl {k : PKey} {d : D} {v : V} (h : Rep K S d v) : ∀ {kvs : List (PKey × D)} {ws : List (Key × V)}, RepK K S kvs ws → RepK K S (kvs.map fun kv => if kv.1 = k then (kv.1, d) else kv) (ws.map fun kv => if kv.1 = keyOf k then (kv.1, v) else kv)
  | _, _, .nil => .nil
  | _, _, .cons (k := k') r q => by
    simp only [List.map_cons]
    by_cases z : k' = k
    · rw [if_pos z, if_pos (by rw [z])]
      exact .cons h (RepK.repl h q)
    · rw [if_neg z, if_neg fun y => z (keyOf_inj y)]
      exact .cons r (RepK.repl h q)
theorem RepT.repl {k : List PKey} {d : D} {v : V} (h : Rep K S d v) : ∀ {kvs : List (List PKey × D)} {ws : List (List Key × V)}, RepT K S kvs ws → RepT K S (kvs.map fun kv => if kv.1 = k then (kv.1, d) else kv) (ws.map fun kv => if kv.1 = k.map keyOf then (kv.1, v) else kv)
  | _, _, .nil => .nil
  | _, _, .cons (k := k') r q => by
    simp only [List.map_cons]
    by_cases z : k' = k
    · rw [if_pos z, if_pos (by rw [z])]
      exact .cons h (RepT.repl h q)
    · rw [if_neg z, if_neg fun y => z (keysOf_eq.mp y)]
      exact .cons r (RepT.repl h q)
theorem RepK.put {k : PKey} {d : D} {v : V} {kvs : List (PKey × D)} {ws : List (Key × V)} (h : Rep K S d v) (q : RepK K S kvs ws) : RepK K S (putD kvs k d) (putK ws (keyOf k) v) := by
  unfold putD putK
  rw [q.any]
  split
  · exact q.repl h
  · exact q.snoc h
theorem RepT.put {k : List PKey} {d : D} {v : V} {kvs : List (List PKey × D)} {ws : List (List Key × V)} (h : Rep K S d v) (q : RepT K S kvs ws) : RepT K S (putD kvs k d) (putK ws (k.map keyOf) v) := by
  unfold putD putK
  rw [q.any]
  split
  · exact q.repl h
  · exact q.snoc h
def mergeD (kvs more : List (PKey × D)) : List (PKey × D) := more.foldl (fun acc kv => putD acc kv.1 kv.2) kvs
theorem RepK.merge : ∀ {more : List (PKey × D)} {ws : List (Key × V)} {kvs : List (PKey × D)} {us : List (Key × V)}, RepK K S more ws → RepK K S kvs us → RepK K S (mergeD kvs more) (mergeK us ws)
  | _, _, _, _, .nil, h => h
  | _, _, _, _, .cons (k := k) r q, h => by
    have g := RepK.merge q (RepK.put (k := k) r h)
    exact g
theorem RepK.length : ∀ {kvs : List (PKey × D)} {ws : List (Key × V)}, RepK K S kvs ws → kvs.length = ws.length
  | _, _, .nil => rfl
  | _, _, .cons _ q => by simp [RepK.length q]
theorem RepT.length : ∀ {kvs : List (List PKey × D)} {ws : List (List Key × V)}, RepT K S kvs ws → kvs.length = ws.length
  | _, _, .nil => rfl
  | _, _, .cons _ q => by simp [RepT.length q]
/-- a key of a dict, by its data -/
def keyD : D → Option PKey
  | .int i => some (.inl i)
  | .str t => some (.inr t)
  | _ => none
def keysD : List D → Option (List PKey)
  | [] => some []
  | d :: ds => (keyD d).bind fun k => (keysD ds).map (k :: ·)
theorem keyD_v {d : D} {v : V} {k : PKey} (h : Rep K S d v) (e : keyD d = some k) : v = kV (keyOf k) := by
  cases h <;> simp [keyD] at e <;> subst e <;> rfl
theorem keysD_v : ∀ {ds : List D} {vs : List V} {ks : List PKey}, Reps K S ds vs → keysD ds = some ks → vs = (ks.map keyOf).map kV
  | _, _, _, .nil, e => by cases e; rfl
  | _, _, _, .cons (d := d) (ds := ds) r q, e => by
    obtain ⟨k, e1, e2⟩ := Option.bind_eq_some_iff.mp (show ((keyD d).bind fun k => (keysD ds).map (k :: ·)) = some _ from e)
    obtain ⟨ks, e3, rfl⟩ := Option.map_eq_some_iff.mp e2
    rw [keyD_v r e1, keysD_v q e3]
    rfl
/-- d[k], by data: none where the key is of another kind -/
def lookD (d k : D) : Option (Option D) := match d, k with
  | .dk kvs, k => (keyD k).map (valD kvs)
  | .dt kvs, .tup ks => (keysD ks).map (valD kvs)
  | _, _ => none
theorem lookD_get {d k : D} {o : Option D} {x y : V} (hs : Sub S H) (hx : Opd K S H d x) (hy : Opd K S H k y) (e : lookD d k = some o) : ∃ a w, x = .ref a ∧ DGet H a y w ∧ (∀ dv, o = some dv → ∃ v, w = some v ∧ Rep K S dv v) ∧ (o = none → w = none) := by
  cases d with
  | dk kvs =>
    obtain ⟨pk, e1, rfl⟩ := Option.map_eq_some_iff.mp (show (keyD k).map (valD kvs) = some o from e)
    obtain ⟨a, ws, rfl, h1, h2⟩ := hx.dk hs
    have ey : y = kV (keyOf pk) := by
      rcases hy with hy | ⟨b, rfl, hy⟩
      · exact keyD_v hy e1
      · cases k <;> first | exact hy.elim | (simp [keyD] at e1)
    subst ey
    exact ⟨a, valV ws (keyOf pk), rfl, .inl ⟨ws, keyOf pk, h1, rfl, rfl⟩, (h2.val (k := pk)).1, (h2.val (k := pk)).2⟩
  | dt kvs =>
    cases k with
    | tup ks =>
      obtain ⟨pk, e1, rfl⟩ := Option.map_eq_some_iff.mp (show (keysD ks).map (valD kvs) = some o from e)
      obtain ⟨a, ws, rfl, h1, h2⟩ := hx.dt hs
      obtain ⟨b, us, rfl, g1, g2⟩ := hy.tup hs
      rw [keysD_v g2 e1] at g1
      exact ⟨a, valV ws (pk.map keyOf), rfl, .inr ⟨ws, pk.map keyOf, b, h1, rfl, g1, rfl⟩, (h2.val (k := pk)).1, (h2.val (k := pk)).2⟩
    | _ => simp [lookD] at e
  | _ => simp [lookD] at e
end
/-! subscripts -/
theorem ix_of {p : P2} (h : ∀ dx dy r S x y H Q, Sub S H → Opd X.K S H dx x → Opd X.K S H dy y → p dx dy = some r → PrimQ X.K S H r Q → ∃ rr : R2, IxR X rr ∧ rr x y H Q) : IxR X (rP2 X.K p) := by
  intro value slice pins s σ H x y v u Q I rx ry hh hs'
  obtain ⟨S, dx, dy, r, hs, hx, hy, e, k⟩ := hh
  obtain ⟨rr, ho, q⟩ := h dx dy r S x y H Q hs hx hy e k
  exact ho value slice pins s σ H x y v u Q I rx ry q hs'
theorem atI_rep {K : PySem.W.Frag} {S : Hp} {xs : List D} {vs : List V} {i : Int} {d : D} (h : Reps K S xs vs) (e : atI xs i = some d) : ∃ v, atI vs i = some v ∧ Rep K S d v := by
  unfold atI at e ⊢
  obtain ⟨j, e1, e2⟩ := Option.bind_eq_some_iff.mp e
  obtain ⟨v, e3, r⟩ := h.get e2
  rw [← h.length, e1]
  exact ⟨v, e3, r⟩
/-- d[k], there -/
def dgetP : P2 := pV fun x y => (lookD x y).bind id
theorem ixD_get (hu : X.A.units + 1 < cLine) : IxR X (fun x y H Q => ∃ a v, x = .ref a ∧ DGet H a y (some v) ∧ Q v H) := by
  intro value slice pins s σ H x y v u Q I rx ry h hs
  obtain ⟨a, z, rfl, g, q⟩ := h
  cases rx
  exact PyProof.Rows.tail_any (dict_typeIs I g) PySem.F.slot_dict_getitem.lookup (d_getItem hu I g ry fun w' s' I' rw' => ⟨z, H, I', rw', q⟩) hs
/-- a subscript of a list, tuple, text or dict -/
def gixD (x y : D) : Option D := match x with
  | .dk _ => (lookD x y).bind id
  | .dt _ => (lookD x y).bind id
  | .str t => match y with
    | .int i => if t.length ≤ 1000000 then (atI t i).map fun c => .str [c] else none
    | _ => none
  | _ => match y with
    | .int i => x.items.bind fun xs => atI xs i
    | _ => none
def gixP : P2 := pV gixD
theorem gixP_ok (hu : X.A.units + 1 < cLine) : IxR X (rP2 X.K gixP) := ix_of fun dx dy r S x y H Q hs hx hy e0 k => by
  obtain ⟨d, e', rfl⟩ := Option.map_eq_some_iff.mp e0
  clear e0
  have dict : (lookD dx dy).bind id = some d → ∃ rr : R2, IxR X rr ∧ rr x y H Q := fun e => by
    obtain ⟨o, e1, e2⟩ := Option.bind_eq_some_iff.mp e
    have e2 : o = some d := e2
    subst e2
    obtain ⟨a, w, rfl, g, h1, _⟩ := lookD_get hs hx hy e1
    obtain ⟨v, rfl, rv⟩ := h1 d rfl
    exact ⟨_, ixD_get hu, a, v, rfl, g, k _ rv⟩
  have seq : ∀ {i : Int}, dy = .int i → (dx.items.bind fun xs => atI xs i) = some d → ∃ rr : R2, IxR X rr ∧ rr x y H Q := fun {i} ei e => by
    subst ei
    obtain ⟨xs, e1, e2⟩ := Option.bind_eq_some_iff.mp e
    obtain ⟨a, vs, rfl, h1, h2⟩ := hx.seq hs e1
    obtain ⟨v, e3, rv⟩ := atI_rep h2 e2
    rcases h1 with h1 | h1
    · exact ⟨_, ix_list, a, vs, i, v, rfl, hy.int, h1, e3, k _ rv⟩
    · exact ⟨_, ix_tup, a, vs, i, v, rfl, hy.int, h1, e3, k _ rv⟩
  unfold gixD at e'
  split at e'
  · exact dict e'
  · exact dict e'
  · rename_i t
    split at e'
    · rename_i i
      split at e'
      · rename_i hl
        obtain ⟨c, e, rfl⟩ := Option.map_eq_some_iff.mp e'
        refine ⟨_, ix_str, tS t, i, c, hx.str, hy.int, by rw [tS_len]; exact sz6 hl, by simpa [tS] using e, k _ (.str [c])⟩
      · cases e'
    · cases e'
  · split at e'
    · rename_i i
      exact seq rfl e'
    · cases e'
end
end QW

end
section
/-! isinstance, slices, built-ins, methods, stores, several targets -/
namespace QW
open PySem PySem.Spec L2
section
variable {X : Cx} {W : WX} {L : Nat → Option Addr} {e a b c : Expr} {pos : Pos} {fe fa fb fc : CE1} {fl : CL} {ll : LK} {S S1 S2 : Hp} {ρ ρ1 ρ2 : EnvQ} {σ : St} {H H1 H2 : Hp} {Q : VK}
inductive Tn where
  | int | bool | tuple | list | str
def Tn.name : Tn → String
  | .int => "int" | .bool => "bool" | .tuple => "tuple" | .list => "list" | .str => "str"
def D.ty : D → Option String
  | .non => some "NoneType" | .bl _ => some "bool" | .int _ => some "int" | .str _ => some "str" | .lst _ => some "list" | .clst _ => some "list" | .tup _ => some "tuple" | .ctup _ => some "tuple"
  | .dk _ => some "dict" | .dt _ => none
/-- isinstance by data -/
def isTn : Tn → D → Option Bool
  | .int, .int _ => some true | .int, .bl _ => some true
  | .bool, .bl _ => some true | .tuple, .tup _ => some true | .tuple, .ctup _ => some true | .list, .lst _ => some true | .list, .clst _ => some true | .str, .str _ => some true
  | _, .dt _ => none
  | _, _ => some false
theorem ty_of {K : PySem.W.Frag} {d : D} {v : V} {t : String} (h : Opd K S H d v) (hs : Sub S H) (e : d.ty = some t) : TyX K H v (.type t) := by
  cases d <;> simp [D.ty] at e <;> subst e
  · rw [h.non]; exact .base .non
  · rw [h.bl]; exact .base (.bl _)
  · rw [h.int]; exact .base (.int _)
  · rw [h.str]; exact .base (.str _)
  · obtain ⟨a, vs, rfl, h1, _⟩ := h.lst hs
    exact .base (.lst h1)
  · obtain ⟨a, vs, rfl, h1, _⟩ := h.clst hs
    rcases h1 with (h1 | ⟨o, h1⟩) | ⟨o, _, _, h1, h2, _⟩
    · exact .base (.lst h1)
    · exact .base (.frz h1)
    · exact .kList h1 h2
  · obtain ⟨a, vs, rfl, h1, _⟩ := h.tup hs
    exact .base (.tup h1)
  · obtain ⟨a, vs, rfl, h1, _⟩ := h.ctup hs
    rcases h1 with (h1 | ⟨o, h1⟩) | ⟨o, _, _, h1, h2, _⟩
    · exact .base (.tup h1)
    · exact .fTuple h1
    · exact .kTuple h1 h2
  · obtain ⟨a, vs, rfl, h1, _⟩ := h.dk hs
    rcases h1 with h1 | ⟨o, h1⟩
    · exact .base (.dK h1)
    · exact .fDict h1
theorem isTn_kit {T : Tn} {d : D} {b : Bool} (e : isTn T d = some b) : ∃ t, d.ty = some t ∧ kitB t T.name = some b := by
  cases T <;> cases d <;> simp only [isTn, Option.some.injEq, reduceCtorEq] at e <;> subst e <;> exact ⟨_, rfl, by decide +kernel⟩
def eIsT (T : Tn) (fe : CE1) : CE1 := fun ρ => (fe ρ).bind fun a => opt (a.1.get a.2) fun d => opt (isTn T d) fun b => .ok (.sh (.bl b), a.2)
theorem v_isT (T : Tn) {q p : Pos} (he : VE X W L e fe) (hg : Gl X "isinstance") (hm : X.mg "isinstance" = none) (hgT : Gl X (Str.ofString T.name)) (hmT : X.mg (Str.ofString T.name) = none) (hv : bootBuiltins (Str.ofString T.name) = some (.type T.name))
    (h1 : Str.ofString T.name ≠ "__name__" := by decide) (h2 : ((Str.ofString T.name) == ("__debug__" : Str)) = false := by decide)
    (hs : starEach [e, .Name (Str.ofString T.name) p] X.env = (false, eval e X.env) :: starEach [.Name (Str.ofString T.name) p] X.env := by rfl) (hpl : (backTo pos (starEach [.Name (Str.ofString T.name) p] X.env)).any (·.1) = false := by rfl)
    (hs2 : starEach [.Name (Str.ofString T.name) p] X.env = (false, eval (.Name (Str.ofString T.name) p) X.env) :: starEach [] X.env := by rfl) : VE X W L (.Call (.Name "isinstance" q) [e, .Name (Str.ofString T.name) p] [] pos) (eIsT T fe) := by
  refine ⟨PE.weak (pe_callB call_isi hg hm PyProof.Rows.boot_isinstance (pa_cons he.pe (pa_cons (pe_bltn (v := .ty T.name) hgT hmT hv rfl h1 h2) pa_nil hs2) hs) (by decide) (by decide) hs hpl) fun σ H Q h => ?_⟩
  refine rdE_bind h fun ll S ρ S1 v H1 r ρ1 r1 t1 q1 g => ?_
  obtain ⟨d, ed, g⟩ := opt_some (Pr := fun r => GoE X W L ll S ρ σ H r Q) g (fun z => z)
  obtain ⟨b, eb, g⟩ := opt_some (Pr := fun r => GoE X W L ll S ρ σ H r Q) g (fun z => z)
  obtain ⟨t, e1, e2⟩ := isTn_kit eb
  exact ⟨v, .ty T.name, _, _, b, rfl, .ty _, ty_of (q1.opd r1 ed) r1.sub e1, kit_ty e2, g S1 _ H1 r1 t1 (.bl b)⟩

/-! slices -/
def cutD {α : Type} (xs : List α) (lo hi : Option Int) : List α := (xs.drop (HT.sIx xs.length 0 lo)).take (HT.sIx xs.length xs.length hi - HT.sIx xs.length 0 lo)
def slD (x : D) (lo hi : Option Int) : Option Res := match x with
  | .lst xs => some (.ow (.lst (cutD xs lo hi)))
  | .str t => if t.length ≤ 1000000 then some (.sh (.str (cutD t lo hi))) else none
  | .tup xs => some (if HT.sIx xs.length 0 lo = 0 ∧ HT.sIx xs.length xs.length hi = xs.length then .sh (.tup xs) else .ow (.tup (cutD xs lo hi)))
  | .ctup xs => some (if HT.sIx xs.length 0 lo = 0 ∧ HT.sIx xs.length xs.length hi = xs.length then .sh (.ctup xs) else .ow (.tup (cutD xs lo hi)))
  | _ => none
theorem Reps.cut {K : PySem.W.Frag} {xs : List D} {vs : List V} (h : Reps K S xs vs) (lo hi : Option Int) : Reps K S (cutD xs lo hi) (cutV vs lo hi) := by
  unfold cutD cutV
  rw [h.length]
  exact (h.drop _).take _
theorem slD_ok : SlR X (rPS X.K slD) := by
  intro pins s σ H x v vl vu lo hi sl Q I rx hsl pl pu hh
  obtain ⟨S, dx, r, hs, hx, e, k⟩ := hh
  cases dx <;> simp only [slD, reduceCtorEq] at e
  · rename_i t
    split at e
    · rename_i hl
      cases e
      refine sl_str pins s σ H x v vl vu lo hi sl Q I rx hsl pl pu ⟨tS t, hx.str, by rw [tS_len]; exact sz6 hl, ?_⟩
      have : cutS (tS t) lo hi = tS (cutD t lo hi) := by
        unfold cutS cutD
        rw [tS_len]
        simp [tS]
      rw [this]
      exact k _ (.str _)
    · cases e
  · rename_i xs
    cases e
    obtain ⟨a, vs, rfl, h1, h2⟩ := hx.lst hs
    exact sl_list pins s σ H _ v vl vu lo hi sl Q I rx hsl pl pu ⟨a, vs, rfl, .inl (.inl h1), fun p hp => k p _ hp (.inl ⟨_, upd_same, h2.cut lo hi⟩)⟩
  · rename_i xs
    obtain ⟨a, vs, rfl, h1, h2⟩ := hx.tup hs
    have ox : Rep X.K S (.tup xs) (.ref a) := by
      rcases hx with hx | ⟨_, _, hx⟩
      · exact hx
      · exact hx.elim
    refine sl_tupA pins s σ H _ v vl vu lo hi sl Q I rx hsl pl pu ⟨a, vs, rfl, .inl (.inl h1), fun z => ?_, fun z p hp => ?_⟩
    · rw [← h2.length] at z
      rw [if_pos z] at e
      cases e
      exact k _ ox
    · rw [← h2.length] at z
      rw [if_neg z] at e
      cases e
      exact k p _ hp (.inr ⟨_, _, rfl, upd_same, h2.cut lo hi⟩)
  · rename_i xs
    obtain ⟨a, vs, rfl, h1, h2⟩ := hx.ctup hs
    have ox : Rep X.K S (.ctup xs) (.ref a) := by
      rcases hx with hx | ⟨_, _, hx⟩
      · exact hx
      · exact hx.elim
    refine sl_tupA pins s σ H _ v vl vu lo hi sl Q I rx hsl pl pu ⟨a, vs, rfl, h1, fun z => ?_, fun z p hp => ?_⟩
    · rw [← h2.length] at z
      rw [if_pos z] at e
      cases e
      exact k _ ox
    · rw [← h2.length] at z
      rw [if_neg z] at e
      cases e
      exact k p _ hp (.inr ⟨_, _, rfl, upd_same, h2.cut lo hi⟩)
theorem slD_na : NoAlS slD := fun d l h i e => by
  cases d <;> simp only [slD, reduceCtorEq] at e
  · split at e <;> cases e
  · cases e
  · split at e <;> cases e
  · split at e <;> cases e

/-! built-ins -/
theorem callN_of {f : Value} {p : PN} (h : ∀ ds r S vs H Q, Sub S H → Opds X.K S H ds vs → p ds = some r → PrimQ X.K S H r Q → ∃ rr, CallR X f rr ∧ rr vs H Q) : CallR X f (rPN X.K p) := by
  intro pins s σ H vs us Q I r hh
  obtain ⟨S, ds, r', hs, hv, e, k⟩ := hh
  obtain ⟨rr, ho, q⟩ := h ds r' S vs H Q hs hv e k
  exact ho pins s σ H vs us Q I r q
theorem Opds.one {K : PySem.W.Frag} {d : D} {vs : List V} (h : Opds K S H [d] vs) : ∃ v, vs = [v] ∧ Opd K S H d v := by
  cases h with
  | cons h q =>
    cases q
    exact ⟨_, rfl, h⟩
theorem Opds.two {K : PySem.W.Frag} {d d' : D} {vs : List V} (h : Opds K S H [d, d'] vs) : ∃ v w, vs = [v, w] ∧ Opd K S H d v ∧ Opd K S H d' w := by
  cases h with
  | cons h q =>
    obtain ⟨w, rfl, q'⟩ := q.one
    exact ⟨_, w, rfl, h, q'⟩
def pN (p : List D → Option D) : PN := fun ds => (p ds).map .sh
theorem pN_na (p) : NoAlN (pN p) := fun ds i => by unfold pN; cases p ds <;> simp
theorem pN_ok {f : Value} {p : List D → Option D} (h : ∀ ds d S vs H Q, Sub S H → Opds X.K S H ds vs → p ds = some d → (∀ v, Rep X.K S d v → Q v H) → ∃ rr, CallR X f rr ∧ rr vs H Q) : CallR X f (rPN X.K (pN p)) := callN_of fun ds r S vs H Q hs hv e k => by
  obtain ⟨d, e1, rfl⟩ := Option.map_eq_some_iff.mp e
  exact h ds d S vs H Q hs hv e1 k
def lenD : List D → Option D
  | [.str t] => if t.length ≤ 1000000 then some (.int t.length) else none
  | [.dk kvs] => none
  | [d] => d.items.map fun xs => .int xs.length
  | _ => none
def lenP : PN := pN lenD
theorem lenP_ok : CallR X (.builtin "len") (rPN X.K lenP) := pN_ok fun ds d S vs H Q hs hv e k => by
  unfold lenD at e
  split at e
  · rename_i t
    split at e
    · rename_i hl
      cases e
      obtain ⟨v, rfl, h⟩ := hv.one
      rw [h.str]
      exact ⟨_, call_len_str, tS t, rfl, by rw [tS_len]; exact sz6 hl, by rw [tS_len]; exact k _ (.int _)⟩
    · cases e
  · cases e
  · rename_i d' _ _
    obtain ⟨xs, e1, rfl⟩ := Option.map_eq_some_iff.mp e
    obtain ⟨v, rfl, h⟩ := hv.one
    obtain ⟨a, vs, rfl, h1, h2⟩ := h.seq hs e1
    exact ⟨_, call_len_seq, a, vs, rfl, h1, by rw [← h2.length]; exact k _ (.int _)⟩
  · cases e
/-- all of a list of truths -/
def blsD : List D → Option (List Bool)
  | [] => some []
  | .bl b :: r => (blsD r).map (b :: ·)
  | _ => none
theorem blsD_map : ∀ {ds : List D} {bs : List Bool}, blsD ds = some bs → ds = bs.map D.bl
  | [], _, e => by cases e; rfl
  | d :: r, bs, e => by
    cases d <;> first | (simp [blsD] at e; done) | skip
    obtain ⟨bs', e1, rfl⟩ := Option.map_eq_some_iff.mp (show (blsD r).map _ = some bs from e)
    rw [blsD_map e1]
    rfl
def intsD : List D → Option (List Int)
  | [] => some []
  | .int b :: r => (intsD r).map (b :: ·)
  | _ => none
theorem intsD_map : ∀ {ds : List D} {bs : List Int}, intsD ds = some bs → ds = bs.map D.int
  | [], _, e => by cases e; rfl
  | d :: r, bs, e => by
    cases d <;> first | (simp [intsD] at e; done) | skip
    obtain ⟨bs', e1, rfl⟩ := Option.map_eq_some_iff.mp (show (intsD r).map _ = some bs from e)
    rw [intsD_map e1]
    rfl
def strsD : List D → Option (List (List Nat))
  | [] => some []
  | .str b :: r => (strsD r).map (b :: ·)
  | _ => none
theorem strsD_map : ∀ {ds : List D} {bs : List (List Nat)}, strsD ds = some bs → ds = bs.map D.str
  | [], _, e => by cases e; rfl
  | d :: r, bs, e => by
    cases d <;> first | (simp [strsD] at e; done) | skip
    obtain ⟨bs', e1, rfl⟩ := Option.map_eq_some_iff.mp (show (strsD r).map _ = some bs from e)
    rw [strsD_map e1]
    rfl
def allP : PN := pN fun ds => match ds with
  | [.lst xs] => (blsD xs).map fun bs => .bl (bs.all id)
  | _ => none
theorem allP_ok (hc : X.calm = true) : CallR X (.builtin "all") (rPN X.K allP) := pN_ok fun ds d S vs H Q hs hv e k => by
  split at e
  · rename_i xs
    obtain ⟨bs, e1, rfl⟩ := Option.map_eq_some_iff.mp e
    obtain ⟨v, rfl, h⟩ := hv.one
    obtain ⟨a, vs, rfl, h1, h2⟩ := h.lst hs
    rw [blsD_map e1] at h2
    rw [h2.bls] at h1
    exact ⟨_, cr_all hc, a, bs, rfl, .inl (.inl h1), k _ (.bl _)⟩
  · cases e
def intP : PN := pN fun ds => match ds with
  | [.int i] => some (.int i)
  | [.bl k] => some (.int (if k then 1 else 0))
  | _ => none
theorem intP_ok : CallR X (.type "int") (rPN X.K intP) := pN_ok fun ds d S vs H Q hs hv e k => by
  split at e
  · cases e
    obtain ⟨v, rfl, h⟩ := hv.one
    rw [h.int]
    exact ⟨_, call_int1, .inl ⟨_, rfl, k _ (.int _)⟩⟩
  · cases e
    obtain ⟨v, rfl, h⟩ := hv.one
    rw [h.bl]
    exact ⟨_, call_int1, .inr ⟨_, rfl, k _ (.int _)⟩⟩
  · cases e
def tupleP : PN := fun ds => match ds with
  | [.lst xs] => some (.ow (.tup xs))
  | [.tup xs] => some (.sh (.tup xs))
  | _ => none
theorem tupleP_ok : CallR X (.type "tuple") (rPN X.K tupleP) := callN_of fun ds r S vs H Q hs hv e k => by
  unfold tupleP at e
  split at e
  · cases e
    obtain ⟨v, rfl, h⟩ := hv.one
    obtain ⟨a, vs, rfl, h1, h2⟩ := h.lst hs
    exact ⟨_, call_tuple_of, a, vs, rfl, .inl ⟨.inl (.inl h1), fun p hp => k p _ hp (.inr ⟨_, _, rfl, upd_same, h2⟩)⟩⟩
  · cases e
    obtain ⟨v, rfl, h⟩ := hv.one
    obtain ⟨a, vs, rfl, h1, h2⟩ := h.tup hs
    rename_i xs
    have ox : Rep X.K S (.tup xs) (.ref a) := by
      rcases h with hx | ⟨_, _, hx⟩
      · exact hx
      · exact hx.elim
    exact ⟨_, call_tuple_of, a, vs, rfl, .inr ⟨.inl (.inl h1), k _ ox⟩⟩
  · cases e
theorem tupleP_na : NoAlN tupleP := fun ds i e => by
  unfold tupleP at e
  split at e <;> cases e
def listP : PN := fun ds => match ds with
  | [d] => d.items.map fun xs => .ow (.lst xs)
  | _ => none
theorem listP_ok : CallR X (.type "list") (rPN X.K listP) := callN_of fun ds r S vs H Q hs hv e k => by
  unfold listP at e
  split at e
  · obtain ⟨xs, e1, rfl⟩ := Option.map_eq_some_iff.mp e
    obtain ⟨v, rfl, h⟩ := hv.one
    obtain ⟨a, vs, rfl, h1, h2⟩ := h.seq hs e1
    exact ⟨_, call_list_of, a, vs, rfl, h1, fun p hp => k p _ hp (.inl ⟨_, upd_same, h2⟩)⟩
  · cases e
theorem listP_na : NoAlN listP := fun ds i e => by
  unfold listP at e
  split at e
  · obtain ⟨xs, e1, z⟩ := Option.map_eq_some_iff.mp e
    cases z
  · cases e
def max2P : PN := pN fun ds => match ds with
  | [.int i, .int j] => some (.int (if j > i then j else i))
  | _ => none
theorem max2P_ok (hc : X.calm = true) : CallR X (.builtin "max") (rPN X.K max2P) := pN_ok fun ds d S vs H Q hs hv e k => by
  split at e
  · cases e
    obtain ⟨v, w, rfl, h1, h2⟩ := hv.two
    rw [h1.int, h2.int]
    exact ⟨_, call_max2 hc, _, _, rfl, k _ (.int _)⟩
  · cases e
def min2P : PN := pN fun ds => match ds with
  | [.int i, .int j] => some (.int (if j < i then j else i))
  | _ => none
theorem min2P_ok (hc : X.calm = true) : CallR X (.builtin "min") (rPN X.K min2P) := pN_ok fun ds d S vs H Q hs hv e k => by
  split at e
  · cases e
    obtain ⟨v, w, rfl, h1, h2⟩ := hv.two
    rw [h1.int, h2.int]
    exact ⟨_, call_min2 hc, _, _, rfl, k _ (.int _)⟩
  · cases e
/-! methods of texts -/
theorem callM_of {id : String} {p : PM} (h : ∀ t ds r S vs H Q, Sub S H → Opds X.K S H ds vs → p t ds = some r → PrimQ X.K S H r Q → ∃ rr, MtR X id rr ∧ rr (.str (tS t)) vs H Q) : MtR X id (rMS X.K p) := by
  intro pins s σ H x vs v us Q I rx r hh
  obtain ⟨S, t, ds, r', hs, rfl, hv, e, k⟩ := hh
  obtain ⟨rr, ho, q⟩ := h t ds r' S vs H Q hs hv e k
  exact ho pins s σ H _ vs v us Q I rx r q
def joinT (sep : List Nat) : List (List Nat) → List Nat
  | [] => []
  | [t] => t
  | t :: r => t ++ sep ++ joinT sep r
def joinP : PM := fun t ds => match ds with
  | [.lst xs] => (strsD xs).bind fun ts => if (ts.map (·.length)).sum + ts.length * t.length ≤ 1000000 then some (.sh (.str (joinT t ts))) else none
  | _ => none
theorem joinP_na : NoAlM joinP := fun t ds i e => by
  unfold joinP at e
  split at e
  · obtain ⟨ts, e1, e2⟩ := Option.bind_eq_some_iff.mp e
    split at e2 <;> cases e2
  · cases e
theorem joinT_eq (t : List Nat) : ∀ ts : List (List Nat), joinT t ts = TL.joinL t ts
  | [] => rfl
  | [x] => rfl
  | x :: y :: r => by
    show x ++ t ++ joinT t (y :: r) = x ++ (t ++ TL.joinL t (y :: r))
    rw [joinT_eq t (y :: r), List.append_assoc]
theorem txt_join (t : List Nat) (ts : List (List Nat)) : Txt.join (tS t) (ts.map tS) = tS (joinT t ts) := by
  rw [joinT_eq]
  exact SX.join_S t ts
theorem joinP_ok : MtR X "str.join" (rMS X.K joinP) := callM_of fun t ds r S vs H Q hs hv e k => by
  unfold joinP at e
  split at e
  · rename_i xs
    obtain ⟨ts, e1, e2⟩ := Option.bind_eq_some_iff.mp e
    split at e2
    · rename_i hl
      cases e2
      obtain ⟨v, rfl, h⟩ := hv.one
      obtain ⟨a, vs, rfl, h1, h2⟩ := h.lst hs
      rw [strsD_map e1] at h2
      have ev : vs = (ts.map tS).map V.str := by
        rw [h2.strs, List.map_map]
        rfl
      rw [ev] at h1
      refine ⟨_, mt_join, tS t, a, ts.map tS, rfl, rfl, .inl (.inl (.inl h1)), ?_, ?_⟩
      · have : (ts.map tS).map (·.length) = ts.map (·.length) := by
          rw [List.map_map]
          exact List.map_congr_left fun x _ => tS_len x
        rw [this, List.length_map, tS_len]
        omega
      · rw [txt_join]
        exact k _ (.str _)
    · cases e2
  · cases e
end
end QW

end
section
/-! objects changed by methods, stores, memberships -/
namespace QW
open PySem PySem.Spec L2
section
variable {X : Cx}
theorem mut_of {id : String} {p : PMut} (h : ∀ S a d ds d' r vs H Q, S a = none → Sub S H → ObR X.K S H d a → Reps X.K S ds vs → p d ds = some (d', r) → (∀ o v, ObR X.K S (upd H a o) d' a → Rep X.K S r v → Q v (upd H a o)) → ∃ rr, MtR X id rr ∧ rr (.ref a) vs H Q) : MtR X id (rMut X.K p) := by
  intro pins s σ H x vs v us Q I rx rv hh
  obtain ⟨S, a, d, ds, d', r, rfl, n, hs, ob, hd, e, k⟩ := hh
  obtain ⟨rr, ho, q⟩ := h S a d ds d' r vs H Q n hs ob hd e k
  exact ho pins s σ H _ vs v us Q I rx rv q
theorem Reps.one' {K : PySem.W.Frag} {S : Hp} {d : D} {vs : List V} (h : Reps K S [d] vs) : ∃ v, vs = [v] ∧ Rep K S d v := by
  cases h with | cons r q => cases q; exact ⟨_, rfl, r⟩
theorem Reps.two' {K : PySem.W.Frag} {S : Hp} {d e : D} {vs : List V} (h : Reps K S [d, e] vs) : ∃ v w, vs = [v, w] ∧ Rep K S d v ∧ Rep K S e w := by
  cases h with | cons r q => cases q with | cons r2 q => cases q; exact ⟨_, _, rfl, r, r2⟩
theorem Reps.zero' {K : PySem.W.Frag} {S : Hp} {vs : List V} (h : Reps K S [] vs) : vs = [] := by
  cases h; rfl
theorem obL {K : PySem.W.Frag} {S H : Hp} {a : Addr} {xs : List D} {vs : List V} (h : Reps K S xs vs) : ObR K S (upd H a (.lst vs)) (.lst xs) a := ⟨vs, upd_same, h⟩
def appendM : PMut := fun d ds => match d, ds with
  | .lst xs, [x] => if xs.length < 1000000 then some (.lst (xs ++ [x]), .non) else none
  | _, _ => none
theorem appendM_ok : MtR X "list.append" (rMut X.K appendM) := mut_of fun S a d ds d' r vs H Q n hs ob hv e k => by
  unfold appendM at e
  split at e
  · split at e
    · rename_i hl
      cases e
      obtain ⟨v, rfl, rv⟩ := hv.one'
      obtain ⟨us, h1, h2⟩ := ob
      exact ⟨_, mt_append, a, us, v, rfl, rfl, h1, by rw [← h2.length, sizeLine_eq]; omega, k _ _ (obL (h2.append (.cons rv .nil))) .non⟩
    · cases e
  · cases e
def popM : PMut := fun d ds => match d, ds with
  | .lst xs, [] => (xs[xs.length - 1]?).map fun y => (.lst xs.dropLast, y)
  | .lst xs, [.int i] => if -1000000 ≤ i ∧ i < 1000000 then (seqIndex? i xs.length).bind fun k => (xs[k]?).map fun y => (.lst (xs.eraseIdx k), y) else none
  | _, _ => none
theorem Reps.dropLast {K : PySem.W.Frag} {S : Hp} : ∀ {xs : List D} {vs : List V}, Reps K S xs vs → Reps K S xs.dropLast vs.dropLast
  | _, _, .nil => .nil
  | _, _, .cons _ .nil => .nil
  | _, _, .cons r (.cons r2 q) => .cons r (Reps.dropLast (.cons r2 q))
theorem Reps.erase {K : PySem.W.Frag} {S : Hp} : ∀ {xs : List D} {vs : List V}, Reps K S xs vs → ∀ k, Reps K S (xs.eraseIdx k) (vs.eraseIdx k)
  | _, _, .nil, _ => .nil
  | _, _, .cons _ q, 0 => q
  | _, _, .cons r q, k + 1 => .cons r (Reps.erase q k)



theorem popM_ok : MtR X "list.pop" (rMut X.K popM) := mut_of fun S a d ds d' r vs H Q n hs ob hv e k => by
  unfold popM at e
  split at e
  · rename_i xs
    obtain ⟨y, e1, z⟩ := Option.map_eq_some_iff.mp e
    cases z
    have := hv.zero'; subst this
    obtain ⟨us, h1, h2⟩ := ob
    obtain ⟨v, e3, rv⟩ := h2.get e1
    rw [h2.length] at e3
    exact ⟨_, mt_pop, a, us, v, rfl, rfl, h1, e3, k _ _ (obL h2.dropLast) rv⟩
  · rename_i xs i
    split at e
    · rename_i hi
      obtain ⟨j, e0, e⟩ := Option.bind_eq_some_iff.mp e
      obtain ⟨y, e1, z⟩ := Option.map_eq_some_iff.mp e
      cases z
      obtain ⟨w, rfl, hw⟩ := hv.one'
      cases hw
      obtain ⟨us, h1, h2⟩ := ob
      obtain ⟨v, e3, rv⟩ := h2.get e1
      exact ⟨_, mt_popAt, a, us, i, j, v, rfl, rfl, h1, by omega, by omega, by rw [← h2.length]; exact e0, e3, k _ _ (obL (h2.erase j)) rv⟩
    · cases e
  · cases e
def insertM : PMut := fun d ds => match d, ds with
  | .lst xs, [.int i, x] => if 0 ≤ i ∧ i < 1000000 ∧ xs.length < 1000000 then some (.lst (xs.take i.toNat ++ [x] ++ xs.drop i.toNat), .non) else none
  | _, _ => none
theorem insertM_ok : MtR X "list.insert" (rMut X.K insertM) := mut_of fun S a d ds d' r vs H Q n hs ob hv e k => by
  unfold insertM at e
  split at e
  · split at e
    · rename_i hl
      cases e
      obtain ⟨v, w, rfl, rv, rw'⟩ := hv.two'
      cases rv
      obtain ⟨us, h1, h2⟩ := ob
      exact ⟨_, mt_insert, a, us, _, w, rfl, rfl, h1, by rw [← h2.length, sizeLine_eq]; omega, hl.1, by omega, k _ _ (obL (((h2.take _).append (.cons rw' .nil)).append (h2.drop _))) .non⟩
    · cases e
  · cases e
def extendM : PMut := fun d ds => match d, ds with
  | .lst xs, [.lst ys] => if xs.length + ys.length ≤ 1000000 then some (.lst (xs ++ ys), .non) else none
  | _, _ => none
theorem extendM_ok : MtR X "list.extend" (rMut X.K extendM) := mut_of fun S a d ds d' r vs H Q n hs ob hv e k => by
  unfold extendM at e
  split at e
  · split at e
    · rename_i hl
      cases e
      obtain ⟨v, rfl, rv⟩ := hv.one'
      obtain ⟨us, h1, h2⟩ := ob
      cases rv with
      | lst g1 g2 => exact ⟨_, mt_extend, a, _, us, _, rfl, rfl, h1, hs.ex _ _ g1 rfl, by rw [← h2.length, ← g2.length, sizeLine_eq]; omega, k _ _ (obL (h2.append g2)) .non⟩
    · cases e
  · cases e
theorem mt_updateK : MtR X "dict.update" (fun x xs H Q => ∃ a b kvs more, x = .ref a ∧ xs = [.ref b] ∧ a ≠ b ∧ H a = some (.dK kvs) ∧ Rd H b (.dK more) ∧ kvs.length + more.length ≤ sizeLine ∧ Q .non (upd H a (.dK (mergeK kvs more)))) := by
  intro pins s σ H x xs v us Q I rx rxs h
  obtain ⟨a, b, kvs, more, rfl, rfl, hn, ha, hb, hz, q⟩ := h
  cases rx
  obtain ⟨u, rfl, ru⟩ := rxs.one
  cases ru
  obtain ⟨z1, d1, vs1, rel1, dd1⟩ := dk_of I.hok ha
  obtain ⟨z2, d2, vs2, rel2, dd2⟩ := dk_rd I.hok hb
  refine call_meetsIn PySem.F.slot_dict_update dd1.typeIs PySem.F.entry_dict_update (PySem.F.args_dict_update_2 _ _) (meets_dict_update (mixKind X.prog X.w) a b hn d2)
    ⟨vs1, vs2, dd1, dd2, by rw [← rel1.length, ← rel2.length]; exact hz, fun h' dd' _ hs => ?_⟩
  have hl : (mergeK kvs more).length ≤ sizeLine := Nat.le_trans (length_mergeK more kvs) hz
  have he : ∃ q, h'.get? a = some q := let ⟨q, _, _, hq, _⟩ := dd'; ⟨q, hq⟩
  exact ⟨.non, _, d_write (t' := s.toks) I (by rw [ha]; exact True.intro) hs he (dk_new hl d1 (rel2.merge rel1) dd'), rfl, q⟩
def updateM : PMut := fun d ds => match d, ds with
  | .dk kvs, [.dk more] => if kvs.length + more.length ≤ 1000000 then some (.dk (mergeD kvs more), .non) else none
  | _, _ => none
theorem updateM_ok : MtR X "dict.update" (rMut X.K updateM) := mut_of fun S a d ds d' r vs H Q n hs ob hv e k => by
  unfold updateM at e
  split at e
  · split at e
    · rename_i hl
      cases e
      obtain ⟨v, rfl, rv⟩ := hv.one'
      obtain ⟨us, h1, h2⟩ := ob
      cases rv with
      | dk g1 g2 =>
        rename_i b ws
        refine ⟨_, mt_updateK, a, b, us, _, rfl, rfl, ?_, h1, hs.rd _ _ g1 (fun _ _ z => nomatch z), by rw [← h2.length, ← g2.length, sizeLine_eq]; omega, k _ _ ⟨_, upd_same, g2.merge h2⟩ .non⟩
        rintro rfl
        rcases g1 with g1 | ⟨o, g1⟩ <;> rw [n] at g1 <;> cases g1
    · cases e
  · cases e
/-! x[i] = e -/
theorem setM_of {p : PMut} (h : ∀ S a d di dv d' r i v H Q, S a = none → Sub S H → ObR X.K S H d a → Opd X.K S H di i → Rep X.K S dv v → p d [di, dv] = some (d', r) → (∀ o, ObR X.K S (upd H a o) d' a → Q (upd H a o)) → ∃ rr, PSet X rr ∧ rr (.ref a) i v H Q) : PSet X (rSetM X.K p) := by
  intro pins s σ H o i v ov iv u Q I ro ri rv hh
  obtain ⟨S, a, d, di, dv, d', r, rfl, n, hs, ob, hi, hv, e, k⟩ := hh
  obtain ⟨rr, ho, q⟩ := h S a d di dv d' r i v H Q n hs ob hi hv e k
  exact ho pins s σ H _ i v ov iv u Q I ro ri rv q
def setM : PMut := fun d ds => match d, ds with
  | .lst xs, [.int i, x] => (ixN xs.length i).map fun j => (.lst (xs.set j x), .non)
  | .dk kvs, [k, x] => (keyD k).bind fun k => if kvs.length < 1000000 then some (.dk (putD kvs k x), .non) else none
  | .dt kvs, [.tup ks, x] => (keysD ks).bind fun k => if kvs.length < 1000000 then some (.dt (putD kvs k x), .non) else none
  | _, _ => none
theorem setM_ok (hu : X.A.units + 1 < cLine) : PSet X (rSetM X.K setM) := setM_of fun S a d di dv d' r i v H Q n hs ob hi hv e k => by
  unfold setM at e
  split at e
  · rename_i z
    cases z
    obtain ⟨j, e1, z⟩ := Option.map_eq_some_iff.mp e
    cases z
    obtain ⟨us, h1, h2⟩ := ob
    exact ⟨_, set_list, a, us, _, j, rfl, hi.int, h1, by rw [← h2.length]; exact e1, k _ (obL (h2.set hv j))⟩
  · rename_i z
    cases z
    obtain ⟨pk, e1, e⟩ := Option.bind_eq_some_iff.mp e
    split at e
    · rename_i hl
      cases e
      obtain ⟨us, h1, h2⟩ := ob
      have ey : i = kV (keyOf pk) := by
        rcases hi with hi | ⟨b, rfl, hi⟩
        · exact keyD_v hi e1
        · cases di <;> first | exact hi.elim | (simp [keyD] at e1)
      subst ey
      exact ⟨_, set_dict hu, a, _, rfl, DPut.k h1 (by rw [← h2.length, sizeLine_eq]; omega), k _ ⟨_, upd_same, h2.put hv⟩⟩
    · cases e
  · rename_i z
    cases z
    obtain ⟨pk, e1, e⟩ := Option.bind_eq_some_iff.mp e
    split at e
    · rename_i hl
      cases e
      obtain ⟨us, h1, h2⟩ := ob
      obtain ⟨b, ws, rfl, g1, g2⟩ := hi.tup hs
      rw [keysD_v g2 e1] at g1
      exact ⟨_, set_dict hu, a, _, rfl, DPut.t h1 g1 (by rw [← h2.length, sizeLine_eq]; omega), k _ ⟨_, upd_same, h2.put hv⟩⟩
    · cases e
  · cases e
end
end QW

end
section
/-! memberships, chains, dict displays, globals, several targets, raise -/
namespace QW
open PySem PySem.Spec L2
section
variable {X : Cx} {W : WX} {L : Nat → Option Addr} {e a b c tg : Expr} {pos : Pos} {fe fa fb fc : CE1} {fl : CL} {ll : LK} {S S1 S2 : Hp} {ρ ρ1 ρ2 : EnvQ} {σ : St} {H H1 H2 : Hp} {Q : VK}
theorem d_inR (hu : X.A.units + 1 < cLine) : OpR X (compareOp .In) (fun x y H Q => ∃ a o, y = .ref a ∧ DGet H a x o ∧ Q (.bl o.isSome) H) := by
  intro pins s σ H x y v u Q I rx ry h
  obtain ⟨a, o, rfl, g, q⟩ := h
  cases ry
  exact d_in hu I g rx fun s3 I3 => ⟨.bl o.isSome, H, I3, rfl, q⟩
theorem d_niR (hu : X.A.units + 1 < cLine) : OpR X (compareOp .NotIn) (fun x y H Q => ∃ a o, y = .ref a ∧ DGet H a x o ∧ Q (.bl !o.isSome) H) := by
  intro pins s σ H x y v u Q I rx ry h
  obtain ⟨a, o, rfl, g, q⟩ := h
  cases ry
  exact d_notIn hu I g rx fun s3 I3 => ⟨.bl !o.isSome, H, I3, rfl, q⟩
theorem look_some {d k : D} {o : Option D} {x y : V} {H : Hp} {K : PySem.W.Frag} (hs : Sub S H) (hx : Opd K S H d x) (hy : Opd K S H k y) (e : lookD d k = some o) : ∃ a w, x = .ref a ∧ DGet H a y w ∧ w.isSome = o.isSome := by
  obtain ⟨a, w, rfl, g, h1, h2⟩ := lookD_get hs hx hy e
  refine ⟨a, w, rfl, g, ?_⟩
  cases o with
  | none => rw [h2 rfl]; rfl
  | some dv =>
    obtain ⟨v, rfl, _⟩ := h1 dv rfl
    rfl
def D.v : D → Option V
  | .non => some .non
  | .bl b => some (.bl b)
  | .int i => some (.int i)
  | .str t => some (.str (tS t))
  | _ => none
def D.vs : List D → Option (List V)
  | [] => some []
  | d :: r => (D.v d).bind fun v => (D.vs r).map (v :: ·)
theorem Opd.flat {K : PySem.W.Frag} {d : D} {x v : V} (h : Opd K S H d x) (e : d.v = some v) : x = v ∧ flatV v = true := by
  cases d <;> simp [D.v] at e <;> subst e
  · exact ⟨h.non, rfl⟩
  · exact ⟨h.bl, rfl⟩
  · exact ⟨h.int, rfl⟩
  · exact ⟨h.str, rfl⟩
theorem Reps.flat {K : PySem.W.Frag} : ∀ {ds : List D} {xs vs : List V}, Reps K S ds xs → D.vs ds = some vs → xs = vs ∧ vs.all flatV = true
  | _, _, _, .nil, e => by cases e; exact ⟨rfl, rfl⟩
  | _, _, _, .cons (d := d) (ds := ds) r q, e => by
    obtain ⟨v, e1, e2⟩ := Option.bind_eq_some_iff.mp (show (D.v d).bind _ = some _ from e)
    obtain ⟨vs, e3, rfl⟩ := Option.map_eq_some_iff.mp e2
    obtain ⟨rfl, h1⟩ := Opd.flat (H := S) (.inl r) e1
    obtain ⟨rfl, h2⟩ := Reps.flat q e3
    exact ⟨rfl, by rw [List.all_cons, h1, h2]; rfl⟩
def inT (x : D) (ys : List D) : Option Bool := x.v.bind fun v => (D.vs ys).map fun vs => inV v vs
def memD (x y : D) : Option Bool := match y with
  | .lst ys => inD x ys
  | .clst ys => inD x ys
  | .tup ys => inT x ys
  | .ctup ys => inT x ys
  | .dk _ => (lookD y x).map (·.isSome)
  | .dt _ => (lookD y x).map (·.isSome)
  | .str t => match x with
    | .str [c] => some (decide (c ∈ t))
    | _ => none
  | _ => none
theorem inD_of' {dx dy : D} {ys : List D} {x y : V} {b : Bool} (hs : Sub S H) (hx : Opd X.K S H dx x) (hy : Opd X.K S H dy y) (h : dy = .lst ys ∨ dy = .clst ys) (e : inD dx ys = some b) : ∃ p qs, Dp X.K H x p ∧ Dp X.K H y (.list qs) ∧ SeqAt.shaped p = true ∧ SeqAt.shaped (.list qs) = true ∧ b = qs.any fun q => PyData.eqv q p := by
  unfold inD at e
  obtain ⟨p, e1, e⟩ := Option.bind_eq_some_iff.mp e
  obtain ⟨q, e2, e⟩ := Option.bind_eq_some_iff.mp e
  split at e
  · rename_i z
    cases e
    refine ⟨p, q, (hx.rep hs).dp e1, (hy.rep hs).dp ?_, z.1, z.2, rfl⟩
    rcases h with rfl | rfl <;> simp only [toPy, e2, Option.map_some]
  · cases e
theorem inT_of {dx dy : D} {ys : List D} {x y : V} {b : Bool} (hs : Sub S H) (hx : Opd X.K S H dx x) (hy : Opd X.K S H dy y) (h : dy = .tup ys ∨ dy = .ctup ys) (e : inT dx ys = some b) : ∃ p xs, y = .ref p ∧ SqT X.K H p xs ∧ flatV x = true ∧ xs.all flatV = true ∧ b = inV x xs := by
  obtain ⟨v, e1, e2⟩ := Option.bind_eq_some_iff.mp (show dx.v.bind _ = some b from e)
  obtain ⟨vs, e3, rfl⟩ := Option.map_eq_some_iff.mp e2
  obtain ⟨rfl, f1⟩ := hx.flat e1
  rcases h with rfl | rfl
  · obtain ⟨a, xs, rfl, h1, h2⟩ := hy.tup hs
    obtain ⟨rfl, f2⟩ := h2.flat e3
    exact ⟨a, _, rfl, SqT.of h1, f1, f2, rfl⟩
  · obtain ⟨a, xs, rfl, h1, h2⟩ := hy.ctup hs
    obtain ⟨rfl, f2⟩ := h2.flat e3
    exact ⟨a, _, rfl, h1, f1, f2, rfl⟩
def memP : P2 := pB memD
def nmP : P2 := pB fun x y => (memD x y).map (!·)
theorem memP_ok (hu : X.A.units + 65 < cLine) : OpR X (compareOp .In) (rP2 X.K memP) := pB_ok fun dx dy b S x y H Q hs hx hy e k => by
  unfold memD at e
  split at e
  · obtain ⟨p, q, h1, h2, h3, h4, rfl⟩ := inD_of' hs hx hy (.inl rfl) e
    exact ⟨_, op_inD hu, p, q, h1, h2, h3, h4, k⟩
  · obtain ⟨p, q, h1, h2, h3, h4, rfl⟩ := inD_of' hs hx hy (.inr rfl) e
    exact ⟨_, op_inD hu, p, q, h1, h2, h3, h4, k⟩
  · obtain ⟨p, xs, rfl, h1, h2, h3, rfl⟩ := inT_of hs hx hy (.inl rfl) e
    exact ⟨_, op_in_seq, p, xs, rfl, .inr h1, h2, h3, k⟩
  · obtain ⟨p, xs, rfl, h1, h2, h3, rfl⟩ := inT_of hs hx hy (.inr rfl) e
    exact ⟨_, op_in_seq, p, xs, rfl, .inr h1, h2, h3, k⟩
  · obtain ⟨o, e1, rfl⟩ := Option.map_eq_some_iff.mp e
    obtain ⟨a, w, rfl, g, ew⟩ := look_some hs hy hx e1
    exact ⟨_, d_inR (by omega), a, w, rfl, g, by rw [ew]; exact k⟩
  · obtain ⟨o, e1, rfl⟩ := Option.map_eq_some_iff.mp e
    obtain ⟨a, w, rfl, g, ew⟩ := look_some hs hy hx e1
    exact ⟨_, d_inR (by omega), a, w, rfl, g, by rw [ew]; exact k⟩
  · split at e
    · rename_i t z c
      cases e
      exact ⟨_, op_in_sign, c, tS t, hx.str, hy.str, by
        rw [show decide (c ∈ (tS t).cps.toList) = decide (c ∈ t) from decide_eq_decide.mpr Iff.rfl]
        exact k⟩
    · cases e
  · cases e
theorem nmP_ok (hu : X.A.units + 65 < cLine) : OpR X (compareOp .NotIn) (rP2 X.K nmP) := pB_ok fun dx dy b S x y H Q hs hx hy e0 k => by
  obtain ⟨b', e, rfl⟩ := Option.map_eq_some_iff.mp e0
  clear e0
  unfold memD at e
  split at e
  · obtain ⟨p, q, h1, h2, h3, h4, rfl⟩ := inD_of' hs hx hy (.inl rfl) e
    exact ⟨_, op_notInD hu, p, q, h1, h2, h3, h4, k⟩
  · obtain ⟨p, q, h1, h2, h3, h4, rfl⟩ := inD_of' hs hx hy (.inr rfl) e
    exact ⟨_, op_notInD hu, p, q, h1, h2, h3, h4, k⟩
  · obtain ⟨p, xs, rfl, h1, h2, h3, rfl⟩ := inT_of hs hx hy (.inl rfl) e
    exact ⟨_, op_notIn_seq, p, xs, rfl, .inr h1, h2, h3, k⟩
  · obtain ⟨p, xs, rfl, h1, h2, h3, rfl⟩ := inT_of hs hx hy (.inr rfl) e
    exact ⟨_, op_notIn_seq, p, xs, rfl, .inr h1, h2, h3, k⟩
  · obtain ⟨o, e1, rfl⟩ := Option.map_eq_some_iff.mp e
    obtain ⟨a, w, rfl, g, ew⟩ := look_some hs hy hx e1
    exact ⟨_, d_niR (by omega), a, w, rfl, g, by rw [ew]; exact k⟩
  · obtain ⟨o, e1, rfl⟩ := Option.map_eq_some_iff.mp e
    obtain ⟨a, w, rfl, g, ew⟩ := look_some hs hy hx e1
    exact ⟨_, d_niR (by omega), a, w, rfl, g, by rw [ew]; exact k⟩
  · split at e
    · rename_i t z c
      cases e
      exact ⟨_, op_notIn_sign, c, tS t, hx.str, hy.str, by
        rw [show decide (c ∈ (tS t).cps.toList) = decide (c ∈ t) from decide_eq_decide.mpr Iff.rfl]
        exact k⟩
    · cases e
  · cases e
theorem memP_na : NoAl2 memP := pB_na _
theorem nmP_na : NoAl2 nmP := pB_na _
/-! chains -/
theorem chain_go {op op' : CmpOp} {p q : P2} (np : ∀ dx dy r, p dx dy = some r → ∃ b, r = .sh (.bl b)) (nq : NoAl2 q) (h : rdE X W L (eChain p q fa fb fc) σ H Q) : tChain (rP2 X.K p) (rP2 X.K q) (rdE X W L fa) (rdE X W L fb) (rdE X W L fc) σ H Q := by
  refine rdE_bind h fun ll S ρ S1 v H1 r ρ1 r1 t1 q1 g => go_bind r1 t1 g fun S2 u H2 r' ρ2 r2 t2 q2 g => ?_
  cases ex : r.get ρ2 with
  | none => simp only [kP2, ex, opt, R.bind] at g; exact g.elim
  | some dx =>
  cases ey : r'.get ρ2 with
  | none => simp only [kP2, ex, ey, opt, R.bind] at g; exact g.elim
  | some dy =>
  cases er : p dx dy with
  | none => simp only [kP2, ex, ey, er, opt, R.bind] at g; exact g.elim
  | some z =>
  obtain ⟨k, rfl⟩ := np _ _ _ er
  have q1' := q1.shift t2
  refine ⟨S2, dx, dy, _, r2.sub, q1'.opd r2 ex, q2.opd r2 ey, er, fun w hw => ⟨k, by cases hw; rfl, ?_⟩⟩
  simp only [kP2, ex, ey, er, opt, R.bind, Res.norm] at g
  cases k with
  | false => exact g S2 _ H2 r2 (t1.trans t2) (.bl false)
  | true =>
    show rdE X W L fc σ H2 _
    refine go_bind (k := fun c => kP2 q r' c.1 c.2) r2 (t1.trans t2) g fun S3 w3 H3 r3 ρ3 rr3 t3 q3 g => ?_
    exact kP2_go nq rr3 ((t1.trans t2).trans t3) (q2.shift t3) q3 g
theorem pB_bl {f : D → D → Option Bool} : ∀ dx dy r, pB f dx dy = some r → ∃ b, r = .sh (.bl b) := fun dx dy r e => by
  obtain ⟨b, _, rfl⟩ := Option.map_eq_some_iff.mp (show (f dx dy).map _ = some r from e)
  exact ⟨b, rfl⟩
theorem v_chain {op op' : CmpOp} {p q : P2} (ho : OpR X (compareOp op) (rP2 X.K p)) (ho' : OpR X (compareOp op') (rP2 X.K q)) (np : ∀ dx dy r, p dx dy = some r → ∃ b, r = .sh (.bl b)) (nq : NoAl2 q) (ha : VE X W L a fa) (hb : VE X W L b fb) (hc : VE X W L c fc)
    (hm : lastMarks [op, op'] [b, c] = false := by with_unfolding_all rfl) : VE X W L (.Compare a [op, op'] [b, c] pos) (eChain p q fa fb fc) :=
  ⟨PE.weak (pe_chain ho ho' ha.pe hb.pe hc.pe hm) fun σ H Q h => chain_go (op := op) (op' := op') np nq h⟩
theorem vt_chain {op op' : CmpOp} {p q : P2} (ho : OpR X (compareOp op) (rP2 X.K p)) (ho' : OpR X (compareOp op') (rP2 X.K q)) (np : ∀ dx dy r, p dx dy = some r → ∃ b, r = .sh (.bl b)) (nq : NoAl2 q) (ha : VE X W L a fa) (hb : VE X W L b fb) (hc : VE X W L c fc)
    (hm : lastMarks [op, op'] [b, c] = false := by with_unfolding_all rfl) : VT X W L (.Compare a [op, op'] [b, c] pos) (bVal (eChain p q fa fb fc)) :=
  ⟨PT.weak (pt_chain ho ho' ha.pe hb.pe hc.pe hm) fun σ H Q h => chain_go (op := op) (op' := op') np nq (rd_val h)⟩
/-! a global -/
theorem v_glob {x : Str} {v : V} {u : Value} {d : D} (hg : Gl X x) (hm : X.mg x = some u) (r : RelV v u) (hd : (x == ("__debug__" : Str)) = false := by decide) (rp : ∀ S : Hp, Rep X.K S d v) : VE X W L (.Name x pos) (eC d) := v_con (pe_glob hg hm r hd) rp
/-! several targets -/
def sAsg (fe : CE1) (fg : CG) : CS := fun ρ => (fe ρ).bind fun a => opt a.1.own fun d => opt (fg d a.2) fun ρ' => .ok (.nx ρ')
theorem vs_asg {fg : CG} (he : VE X W L e fe) (hg : VG X L tg fg) (hs : swapsWithSole [tg] e pos.line X.env = pure false := by rfl) (hw : swappedStores [tg] e X.env = pure none := by rfl)
    (h1 : (assignEach [tg] X.env).map (·.2) = [assign tg X.env] := by rfl) : VS X W L (.Assign [tg] e pos) (sAsg fe fg) := by
  refine ⟨PS.weak (ps_asg he.pe hg.pg hs hw h1) fun σ H D h => ?_⟩
  refine rdSE_bind h fun ll S ρ S1 v H1 r ρ1 r1 t1 q1 g => ?_
  obtain ⟨d, eo, g⟩ := opt_some (Pr := fun r => GoS X W L ll S ρ σ H r D) g (fun z => z)
  obtain ⟨ρ', eg, g⟩ := opt_some (Pr := fun r => GoS X W L ll S ρ σ H r D) g (fun z => z)
  obtain ⟨S2, r2, t2, rp⟩ := own_rep r1 t1 q1 eo
  refine ⟨ll, S2, ρ1, d, r2, rp, ?_⟩
  rw [eg]
  exact fun S3 σ3 H3 r3 t3 => g S3 σ3 H3 r3 (t2.trans t3)
abbrev CGs := List D → EnvQ → Option EnvQ
structure VGs (X : Cx) (L : Nat → Option Addr) (es : List Expr) (f : CGs) : Prop where
  pgs : PGs X es (fun vs σ H Q => ∃ ll S ρ ds, RR X.K L ll S ρ σ H ∧ Reps X.K S ds vs ∧ GoG X L ll S ρ σ H (f ds ρ) Q)
def gsNil : CGs := fun ds ρ => match ds with
  | [] => some ρ
  | _ => none
def gsCons (g : CG) (f : CGs) : CGs := fun ds ρ => match ds with
  | d :: r => (g d ρ).bind (f r)
  | [] => none
theorem PGs.weak {es : List Expr} {t t' : TGs} (h : PGs X es t) (w : ∀ vs σ H Q, t' vs σ H Q → t vs σ H Q) : PGs X es t' := ⟨fun pins s σ H v u Q I r q => h.run pins s σ H v u Q I r (w v σ H Q q)⟩
theorem vgs_nil : VGs X L [] gsNil := by
  refine ⟨PGs.weak pgs_nil fun vs σ H Q h => ?_⟩
  obtain ⟨ll, S, ρ, ds, rr, rp, g⟩ := h
  unfold gsNil at g
  cases rp with
  | nil => exact ⟨rfl, g S σ H rr Tr.refl⟩
  | cons _ _ => exact g.elim
theorem vgs_cons {es : List Expr} {g : CG} {f : CGs} (h1 : VG X L e g) (h2 : VGs X L es f) (hs : (assignEach (e :: es) X.env).map (·.2) = assign e X.env :: (assignEach es X.env).map (·.2) := by rfl) : VGs X L (e :: es) (gsCons g f) := by
  refine ⟨PGs.weak (pgs_cons h1.pg h2.pgs hs) fun vs σ H Q h => ?_⟩
  obtain ⟨ll, S, ρ, ds, rr, rp, go⟩ := h
  unfold gsCons at go
  cases rp with
  | nil => exact go.elim
  | cons r q =>
    rename_i d v ds vs
    refine ⟨v, vs, rfl, ll, S, ρ, d, rr, r, ?_⟩
    dsimp only at go
    cases eg : g d ρ with
    | none => rw [eg] at go; exact go.elim
    | some ρ' =>
      rw [eg] at go
      refine fun S' σ' H' r' t' => ⟨ll, S', ρ', ds, r', q.mono (Sub.of_ex t'.ex), ?_⟩
      change GoG X L ll S ρ σ H (f ds ρ') Q at go
      cases e2 : f ds ρ' with
      | none => rw [e2] at go; exact go.elim
      | some ρ2 =>
        rw [e2] at go
        exact fun S2 σ2 H2 r2 t2 => go S2 σ2 H2 r2 (t'.trans t2)
def gTupD (n : Nat) (f : CGs) : CG := fun d ρ => match d with
  | .tup ds => if ds.length = n then f ds ρ else none
  | .ctup ds => if ds.length = n then f ds ρ else none
  | _ => none
theorem vg_tup {es : List Expr} {k n : Nat} {f : CGs} (hc : X.calm = true) (h : VGs X L es f) (hn : (assignEach es X.env).length = n := by rfl) (hst : (assignEach es X.env).findIdx? (·.1) = none := by rfl) : VG X L (.Tuple es k pos) (gTupD n f) := by
  refine ⟨PG.weak (pg_tup hc h.pgs hn hst) fun v σ H Q h => ?_⟩
  obtain ⟨ll, S, ρ, d, rr, rp, g⟩ := h
  unfold gTupD at g
  split at g
  · rename_i ds
    split at g
    · rename_i hl
      cases rp with
      | tup h1 h2 => exact ⟨_, _, rfl, SqT.of (rr.sub.ex _ _ h1 rfl), by rw [← h2.length]; exact hl, ll, S, ρ, ds, rr, h2, g⟩
    · exact g.elim
  · rename_i ds
    split at g
    · rename_i hl
      cases rp with
      | ctup h1 h2 => exact ⟨_, _, rfl, rr.sub.t h1, by rw [← h2.length]; exact hl, ll, S, ρ, ds, rr, h2, g⟩
    · exact g.elim
  · exact g.elim
/-! new dicts -/
theorem v_dk0 : VE X W L (.Dict [] [] pos) (fun ρ => .ok (.ow (.dk []), ρ)) := by
  refine ⟨PE.weak pe_dnewK fun σ H Q h => ?_⟩
  obtain ⟨ll, S, ρ, rr, g⟩ := h
  exact fun p hp => GoE.prim (r := .ow (.dk [])) rr Tr.refl g (fun i z => nomatch z) p _ hp (.inl ⟨[], upd_same, .nil⟩)
theorem v_dt0 : VE X W L (.Dict [] [] pos) (fun ρ => .ok (.ow (.dt []), ρ)) := by
  refine ⟨PE.weak pe_dnewT fun σ H Q h => ?_⟩
  obtain ⟨ll, S, ρ, rr, g⟩ := h
  exact fun p hp => GoE.prim (r := .ow (.dt [])) rr Tr.refl g (fun i z => nomatch z) p _ hp (.inl ⟨[], upd_same, .nil⟩)
theorem lCons_go {Q : List V → Hp → Prop} (h : rdL X W L (lCons fa fl) σ H Q) : rdE X W L fa σ H fun v H1 => rdL X W L fl σ H1 fun vs H2 => Q (v :: vs) H2 := by
  obtain ⟨ll, S, ρ, rr, g⟩ := h
  refine ⟨ll, S, ρ, rr, ?_⟩
  unfold lCons at g
  cases e1 : fa ρ with
  | stuck => rw [e1] at g; exact g
  | exc c ρ' => rw [e1] at g; exact g
  | ok a =>
    obtain ⟨r, ρ1⟩ := a
    rw [e1] at g
    intro S1 v H1 r1 t1 q1
    refine ⟨ll, S1, ρ1, r1, ?_⟩
    unfold R.bind at g
    dsimp only at g
    cases e2 : fl ρ1 with
    | stuck => rw [e2] at g; exact g
    | exc c ρ' =>
      rw [e2] at g
      exact GoX.back g t1
    | ok b =>
      obtain ⟨rs, ρ2⟩ := b
      rw [e2] at g
      exact fun S2 vs H2 r2 t2 q2 => g S2 (v :: vs) H2 r2 (t1.trans t2) (.cons (q1.shift t2) (q2.back fun _ z => t1.back z))
def flatP : List (V × V) → List V
  | [] => []
  | p :: r => p.1 :: p.2 :: flatP r
structure VPs (X : Cx) (W : WX) (L : Nat → Option Addr) (pos : Pos) (keys : List (Option Expr)) (values : List Expr) (fl : CL) : Prop where
  ex : ∃ trs, PPs X pos keys values trs ∧ ∀ σ H Q, rdL X W L fl σ H (fun vs H' => ∀ ps, vs = flatP ps → Q ps H') → tPairs trs σ H Q
theorem vps_nil : VPs X W L pos [] [] lNil := ⟨[], pps_nil, fun σ H Q h => by
  obtain ⟨ll, S, ρ, rr, g⟩ := h
  exact g S [] H rr Tr.refl .nil [] rfl⟩
theorem vps_cons {k v : Expr} {ks : List (Option Expr)} {vs : List Expr} (hk : VE X W L k fa) (hv : VE X W L v fb) (hr : VPs X W L pos ks vs fl) : VPs X W L pos (some k :: ks) (v :: vs) (lCons fa (lCons fb fl)) := by
  obtain ⟨trs, h1, h2⟩ := hr.ex
  refine ⟨_, pps_cons hk.pe hv.pe h1, fun σ H Q h => ?_⟩
  obtain ⟨ll, S, ρ, rr, g⟩ := lCons_go h
  refine ⟨ll, S, ρ, rr, ?_⟩
  cases e1 : fa ρ with
  | stuck => rw [e1] at g; exact g
  | exc c ρ' => rw [e1] at g; exact g
  | ok a =>
    rw [e1] at g
    intro S1 v H1 r1 t1 q1
    have g := lCons_go (g S1 v H1 r1 t1 q1)
    obtain ⟨ll, S, ρ, rr, g⟩ := g
    refine ⟨ll, S, ρ, rr, ?_⟩
    cases e1 : fb ρ with
    | stuck => rw [e1] at g; exact g
    | exc c ρ' => rw [e1] at g; exact g
    | ok a =>
      rw [e1] at g
      intro S2 u H2 r2 t2 q2
      refine h2 σ H2 _ ?_
      obtain ⟨ll, S, ρ, rr, g⟩ := g S2 u H2 r2 t2 q2
      refine ⟨ll, S, ρ, rr, ?_⟩
      cases e1 : fl ρ with
      | stuck => rw [e1] at g; exact g
      | exc c ρ' => rw [e1] at g; exact g
      | ok a =>
        rw [e1] at g
        exact fun S3 vs H3 r3 t3 q3 ps eps => g S3 vs H3 r3 t3 q3 ((v, u) :: ps) (by rw [eps]; rfl)
def pairsD : List D → Option (List (PKey × D))
  | [] => some []
  | k :: v :: r => (keyD k).bind fun k => (pairsD r).map ((k, v) :: ·)
  | _ => none
theorem pairsD_v : ∀ {ds : List D} {vs : List V} {kvs : List (PKey × D)} {K : PySem.W.Frag}, Reps K S ds vs → pairsD ds = some kvs → ∃ ws : List (Key × V), vs = flatP (ws.map fun kv => (kV kv.1, kv.2)) ∧ RepK K S kvs ws ∧ ws.length = kvs.length
  | _, _, _, _, .nil, e => by cases e; exact ⟨[], rfl, .nil, rfl⟩
  | _, _, _, _, .cons r .nil, e => by cases e
  | _, _, _, _, .cons (d := k) (v := kv) r (.cons (d := d) (v := v) r2 q), e => by
    obtain ⟨pk, e1, e2⟩ := Option.bind_eq_some_iff.mp (show (keyD k).bind _ = some _ from e)
    obtain ⟨kvs, e3, rfl⟩ := Option.map_eq_some_iff.mp e2
    obtain ⟨ws, rfl, rk, hl⟩ := pairsD_v q e3
    refine ⟨(keyOf pk, v) :: ws, ?_, .cons r2 rk, by simp [hl]⟩
    rw [keyD_v r e1]
    rfl
def eDisp (fl : CL) : CE1 := fun ρ => (fl ρ).bind fun a => opt (owns a.1) fun ds => opt (pairsD ds) fun kvs => if kvs.length ≤ 15 then .ok (.ow (.dk (mergeD [] kvs)), a.2) else .stuck
theorem RR.put (r : RR X.K L ll S ρ σ H) {p : Addr} {o : HO} (hs : S p = none) (hn : ¬ OwnA ρ σ p) : RR X.K L ll S ρ σ (L2.upd H p o) where
  len := r.len
  ex := fun a u h n => by
    rw [upd_ne (ne_of_none h hs)]; exact r.ex a u h n
  lk := fun a h => by
    obtain ⟨ob, u, nf, nt, e, eh⟩ := r.lk a h
    exact ⟨ob, u, nf, nt, e, by rw [upd_ne (ne_of_none e hs)]; exact eh⟩
  nf := r.nf
  lo := fun a ob z => by
    obtain ⟨_, _, _, _, e, _⟩ := r.lk a (LK.mem z)
    obtain ⟨u, e2⟩ := r.lo a ob z
    exact ⟨u, by rw [upd_ne (ne_of_none e hs)]; exact e2⟩
  sh := r.sh
  ow := fun i l d h => by
    obtain ⟨a, e, n, ob, k⟩ := r.ow i l d h
    have ha : a ≠ p := fun z => by subst z; exact hn ⟨i, l, d, h, e⟩
    exact ⟨a, e, n, ob.mono (Sub.refl S) (upd_ne ha), k⟩
  ln := r.ln
  sep := r.sep
theorem Tr.put (t : Tr S ρ σ H S1 ρ1 σ H1) {p : Addr} {o : HO} (hp : H p = none) : Tr S ρ σ H S1 ρ1 σ (L2.upd H1 p o) where
  ex := t.ex
  fr := fun a u h n => by rw [upd_ne (ne_of_none h hp)]; exact t.fr a u h n
  nw := t.nw
  ns := t.ns
  dm := fun a h => by
    by_cases e : a = p
    · rw [e, upd_same]; simp
    · rw [upd_ne e]; exact t.dm a h
theorem v_disp {keys : List (Option Expr)} {values : List Expr} (h : VPs X W L pos keys values fl) (hall : keys.all (·.isSome) = true := by rfl) (hl : keys.length = values.length := by rfl) (h0 : keys ≠ [] := by simp) (h15 : keys.length ≤ 15 := by decide) : VE X W L (.Dict keys values pos) (eDisp fl) := by
  obtain ⟨trs, h1, h2⟩ := h.ex
  refine ⟨PE.weak (pe_disp h1 hall hl h0 h15) fun σ H Q h => ?_⟩
  intro p hp
  refine h2 σ _ _ ?_
  obtain ⟨ll, S, ρ, rr, g⟩ := h
  have nS : S p = none := Classical.byContradiction fun n => rr.there n hp
  have no : ¬ OwnA ρ σ p := fun z => by
    obtain ⟨u, e⟩ := rr.ownH z
    rw [hp] at e; cases e
  have t0 : Tr S ρ σ H S ρ σ (upd H p (.dK [])) := Tr.refl.alloc hp
  refine ⟨ll, S, ρ, rr.alloc hp, ?_⟩
  unfold eDisp at g
  cases e1 : fl ρ with
  | stuck => rw [e1] at g; exact g
  | exc c ρ' =>
    rw [e1] at g
    exact GoX.back g t0
  | ok a =>
    obtain ⟨rs, ρ1⟩ := a
    rw [e1] at g
    intro S1 vs H1 r1 t1 q1 ps eps
    obtain ⟨ds, ed, g⟩ := opt_some (Pr := fun r => GoE X W L ll S ρ σ H r Q) g (fun z => z)
    obtain ⟨kvs, ek, g⟩ := opt_some (Pr := fun r => GoE X W L ll S ρ σ H r Q) g (fun z => z)
    obtain ⟨hl15, g⟩ := ite_go g
    have nS1 : S1 p = none := Classical.byContradiction fun z => (t1.ns p z).elim (fun z => z nS) fun z => z.elim no fun z => by rw [upd_same] at z; cases z
    have no1 : ¬ OwnA ρ1 σ p := fun z => (t1.nw p z).elim no fun z => by rw [upd_same] at z; cases z
    have hp1 : H1 p = some (.dK []) := t1.fr p _ upd_same no
    obtain ⟨S2, r2, t2, _, hd⟩ := freezes r1 t1 q1 ed
    have nS2 : S2 p = none := Classical.byContradiction fun z => (t2.ns p z).elim (fun z => z nS) fun z => z.elim no fun z => by rw [upd_same] at z; cases z
    obtain ⟨ws, ews, rk, hlw⟩ := pairsD_v hd ek
    have epw : ps = ws.map fun kv => (kV kv.1, kv.2) := by
      rw [eps] at ews
      have inj : ∀ {a b : List (V × V)}, flatP a = flatP b → a = b := by
        intro a
        induction a with
        | nil => intro b e; cases b with
          | nil => rfl
          | cons _ _ => cases e
        | cons x a ih => intro b e; cases b with
          | nil => cases e
          | cons y b =>
            simp only [flatP, List.cons.injEq] at e
            rw [ih e.2.2, show x = y from Prod.ext e.1 e.2.1]
      exact inj ews
    refine ⟨hp1, ws, epw, by omega, ?_⟩
    have t3 := ((t0.trans t2).put (p := p) (o := .dK (mergeK [] ws)) hp)
    refine g S2 (.ref p) _ (r2.put nS2 no1) t3 ⟨p, rfl, nS2, ⟨_, upd_same, rk.merge .nil⟩, no1, hp⟩
end
end QW

end
section
/-! within an except suite: comprehensions over a range, isinstance of the handled exception, calls -/
namespace QW
open PySem PySem.Spec PyProof.Rows L2 L2H
section
/-- the context of a block that runs while p is handled -/
abbrev blkH (X : Cx) (s : Shared) (H : Hp) (scope : Scope) (cenv : PySem.Env) (fp : List Addr) (p : Addr × Obj) : Cx := (X.blk s H scope cenv fp).tr [p] fun _ _ => False
variable {X : Cx}
theorem lc_coreH {p : Addr × Obj} {pins : List (Addr × Obj)} {s : Shared} {σ : St} {H : Hp} {Q : VK} {elt tg iter : Expr} {ifs : List Expr} {scope : Scope} {own : List (Str × Nat)} {pos pos' : Pos} {wi : TI} {g : TG} {tt : TT} {te : TE} {use : Option (Value → Sem Unit)} {Qf : Value → Shared → Prop}
    (hot : Hot1 X.A p) (hp : p ∈ X.pn) (hN : X.N.Nodup) (I : Inv X pins σ H s) (hi : PIH X tg iter wi) (ok : BlkOk X.N X.env.scope scope own)
    (hg : ∀ (s : Shared) (H : Hp) (C : Addr) (cl : List (Str × Addr)) (fp : List Addr), PG (blkH X s H scope (compEnvC scope cl C X.env) fp p) tg g) (ht : ∀ (s : Shared) (H : Hp) (C : Addr) (cl : List (Str × Addr)) (fp : List Addr), PTs (blkH X s H scope (compEnvC scope cl C X.env) fp p) ifs tt)
    (he : ∀ (s : Shared) (H : Hp) (C : Addr) (cl : List (Str × Addr)) (fp : List Addr), PE (blkH X s H scope (compEnvC scope cl C X.env) fp p) elt te) (hs : ∀ x, foldedSetIterable iter X.env x = pure x)
    (h : tLc wi g tt te (own.map (·.2)) σ H Q)
    (hRR : ∀ D C s' m H', Inv X pins σ H' s' → Q (.ref D) H' → s'.heap.Ns C m → FpOk X pins H' C → compPost (model X.prog X.w) X.A X.xe use Qf (.ref D) C (.ok .next) s') :
    wpAny (model X.prog X.w) X.A (comprehension (.ListComp elt [⟨tg, iter, ifs, 0⟩] scope pos) scope X.env pos' (newList []) false (eval iter X.env) use) Qf X.xe s := by
  have hfree : ∀ y ∈ scope.names, y.2 = .free → ∃ c, X.env.cells.lookup y.1 = some c := fun y hy e => by
    rcases ok.free y hy e with k | k
    · exact I.ok.has _ (.inl k)
    · exact I.ok.has _ (.inr k)
  refine wpAny_comprehension_free (use := use) rfl hs (closure_ok hfree) ok.kind (fun y hy e => by rw [ok.uniq y hy, e])
    (thn (hi.run pins s σ H _ I h) fun xv s1 hx => thn hx fun itv s2 h2 => ?_)
  obtain ⟨it, fp, tn, J, H2, e, I2, T, st2, f2, q⟩ := h2
  subst e
  refine wpAny_newObj_type (newEnv_comp ?_) (by show 0 ≤ sizeLine; decide)
  generalize hD : s2.heap.objs.size = D
  have hDn : H2 D = none := I2.hok.fresh (Nat.le_of_eq hD)
  obtain ⟨W, ⟨m0, w0⟩, turn⟩ := q D hDn
  generalize hs3 : ({ s2 with heap := s2.heap.push { cls := .type "list", data := .seq ([] : List Value).toArray } } : Shared) = s3
  have I3 : Inv X pins σ (upd H2 D (.lst [])) s3 := by
    rw [← hs3]
    refine I2.laid (t' := s2.toks) (fun b o e => Heap.get?_push_of_some _ e) (Nat.le_of_eq hD) ⟨Nat.zero_le _, [], 0, .nil, ?_⟩
    rw [← hD]
    exact Heap.get?_push_size _ rfl
  have h3 : s3.heap = s2.heap.push { cls := .type "list", data := .seq ([] : List Value).toArray } := by rw [← hs3]
  have sz : ∀ b ∈ fp, b < s2.heap.objs.size := fun b hb => by
    obtain ⟨o, e, _⟩ := T.obj _ _ st2 b hb
    exact Heap.lt_size e
  have f3 : ∀ b ∈ fp, FpOk X pins (upd H2 D (.lst [])) b ∧ b < s3.heap.objs.size := fun b hb => by
    have hlt := sz b hb
    refine ⟨⟨?_, (f2 b hb).2⟩, by rw [h3, Heap.size_push]; exact Nat.lt_succ_of_lt hlt⟩
    rw [upd_ne (by rw [← hD]; exact Nat.ne_of_lt hlt)]
    exact (f2 b hb).1
  have st3 : tn 0 s3.heap := T.keep _ _ _ st2 fun b _ o e => by rw [h3]; exact Heap.get?_push_of_some _ e
  have I40 := block_start I3 ok hN f3
  -- the handled exception stands there, too
  have P3 := I3.pin p (List.mem_append_left _ hp)
  have I4 := (I40.pins_of (pins' := [p]) fun q hq => by
    rw [List.mem_singleton.mp hq]
    exact ⟨pushCells_keeps _ _ _ _ (Heap.get?_push_of_some _ P3.1), P3.2.1, Nat.ne_of_lt (Heap.lt_size P3.1), fun hm => (List.mem_cons.mp (I3.stkSub p.1 hm)).elim P3.2.2.1 P3.2.2.2.1, P3.2.2.2.2⟩).toTry (fun _ _ => False)
  have pg := hg s3 (upd H2 D (.lst [])) s3.heap.objs.size (cellsFrom (s3.heap.objs.size + 1) scope.names (cloFrom X.env.cells scope.names [])) fp
  have pt := ht s3 (upd H2 D (.lst [])) s3.heap.objs.size (cellsFrom (s3.heap.objs.size + 1) scope.names (cloFrom X.env.cells scope.names [])) fp
  have pe := he s3 (upd H2 D (.lst [])) s3.heap.objs.size (cellsFrom (s3.heap.objs.size + 1) scope.names (cloFrom X.env.cells scope.names [])) fp
  show codeAny _ _ (.compStart (.ListComp elt [⟨tg, iter, ifs, 0⟩] scope pos) 0 (.ref it) (.ref D) (compEnvC scope (cellsFrom (s3.heap.objs.size + 1) scope.names (cloFrom X.env.cells scope.names [])) s3.heap.objs.size X.env)) (compPost (model X.prog X.w) X.A X.xe use Qf (.ref D) s3.heap.objs.size) { s3 with heap := pushCells (s3.heap.push { cls := .type "dict", data := .dict #[] }) scope.names }
  have nfp : ∀ b ∈ fp, (upd H2 D (.lst [])) b = none := fun b hb => (f3 b hb).1.1
  generalize hce : compEnvC scope (cellsFrom (s3.heap.objs.size + 1) scope.names (cloFrom X.env.cells scope.names [])) s3.heap.objs.size X.env = ce at I4 pg pt pe ⊢
  have cL : ce.locals = s3.heap.objs.size := by subst hce; rfl
  generalize hH3 : upd H2 D (.lst []) = H3 at I3 I4 pg pt pe w0 nfp f3
  generalize hs4 : ({ s3 with heap := pushCells (s3.heap.push { cls := .type "dict", data := .dict #[] }) scope.names } : Shared) = s4 at I4 ⊢
  have st4 : tn 0 s4.heap := T.keep _ _ _ st3 fun b _ o e => by rw [← hs4]; exact pushCells_keeps _ _ _ _ (Heap.get?_push_of_some _ e)
  have hotB : HotC (blkH X s3 H3 scope ce fp p) := ⟨p, hot, List.mem_singleton.mpr rfl⟩
  have I4' : Inv (blkH X s3 H3 scope ce fp p) [] (wipe σ (own.map (·.2))) H3 s4 := I4
  have stat : ∀ {σ' : St} {H' : Hp} {s' : Shared}, Inv (blkH X s3 H3 scope ce fp p) [] σ' H' s' → (∀ b ∈ fp, H' b = none) → ∀ b ∈ fp, FpOk (blkH X s3 H3 scope ce fp p) [] H' b := fun {σ' H' s'} I' hn b hb =>
    ⟨hn b hb, (I'.ok.exf b hb).1, I'.ok.exfs b hb, .inl hb, fun x c e => (I'.ok.exf b hb).2 x c e, fun q hq => by
      have eq : q = p := by simpa using (show q ∈ [p] ++ ([] : List (Addr × Obj)) from hq)
      rw [eq]
      exact (f3 b hb).1.2.2.2.2.2 p (List.mem_append_left _ hp)⟩
  have loop : codeAny (model X.prog X.w) X.A (.compLoop (.ListComp elt [⟨tg, iter, ifs, 0⟩] scope pos) 0 (.ref it) (.ref D) ce) (compPost (model X.prog X.w) X.A X.xe use Qf (.ref D) s3.heap.objs.size) s4 := by
    refine compLoop_any (fun n s' => ∃ i H', Inv (blkH X s3 H3 scope ce fp p) [] (wipe σ (own.map (·.2))) H' s' ∧ tn i s'.heap ∧ (∀ b ∈ fp, H' b = none) ∧ W i n H') ?_ m0 ⟨0, H3, I4', st4, nfp, w0⟩
    rintro n s5 ⟨i, H5, I5, st5, n5, w5⟩
    rcases turn i n H5 w5 with ⟨stop, qq⟩ | ⟨go, Nx, hNx, step⟩
    · have td := T.done (blkH X s3 H3 scope ce fp p) rfl rfl rfl hotB i [] s5 _ H5 (fun _ _ => False) I5 (stat I5 n5) st5 stop
      refine thnF td fun r s6 ⟨hr, I6⟩ => ?_
      subst hr
      have I7 : Inv X pins σ H5 s6 := I3.call' (ch := fp) I6.os I6.base I6.hok I6.bare fun b hb => ⟨(f3 b hb).1.2.2.2.1, (f3 b hb).1.2.1, (f3 b hb).1.2.2.2.2.1, (f3 b hb).1.2.2.2.2.2⟩
      have nC : H5 s3.heap.objs.size = none := by
        have z : H5 ce.locals = none := I6.free
        rw [cL] at z
        exact z
      obtain ⟨m, hn, _⟩ := I6.loc
      have hn : s6.heap.Ns ce.locals m := hn
      rw [cL] at hn
      exact hRR D s3.heap.objs.size s6 m H5 I7 qq hn (I3.fpOk (Nat.le_refl _) nC)
    · have ti := T.item (blkH X s3 H3 scope ce fp p) rfl rfl rfl hotB i [] s5 _ H5 (fun _ _ => False) I5 (stat I5 n5) st5 go
      refine thnF ti fun r s6 ⟨u, hr, h6⟩ => ?_
      subst hr
      refine thnF h6 fun _ s7 ⟨x, H7, I7, r7, y7, st7, n7⟩ => ?_
      have I7' := I7.pinned (stat I7 n7) (T.obj _ _ st7)
      refine thnF (pg.run _ s7 _ H7 x u _ I7' r7 (step x H7 y7)) fun _ s8 ⟨σ8, H8, I8, hw8, q8⟩ => ?_
      refine thnF (pt.run _ s8 σ8 H8 _ I8 q8) fun b s9 ⟨H9, I9, q9⟩ => ?_
      have fin : ∀ {s' : Shared} {H' : Hp}, Inv (blkH X s3 H3 scope ce fp p) ([] ++ pinsAt fp s7.heap) σ8 H' s' → Nx H' → ∃ m, m < n ∧ ∃ i H', Inv (blkH X s3 H3 scope ce fp p) [] (wipe σ (own.map (·.2))) H' s' ∧ tn i s'.heap ∧ (∀ b ∈ fp, H' b = none) ∧ W i m H' := fun {s' H'} I' nx => by
        obtain ⟨m', hm, w'⟩ := hNx H' nx
        have pin' : ∀ b ∈ fp, ∀ o, s7.heap.get? b = some o → s'.heap.get? b = some o ∧ H' b = none := fun b hb o e =>
          let z := I'.pin (b, o) (List.mem_append_right _ (List.mem_append_right _ (mem_pinsAt hb e)))
          ⟨z.1, z.2.1⟩
        have hl : (wipe σ (own.map (·.2))).length = σ8.length := by rw [← hw8, wipe_length]
        refine ⟨m', hm, i + 1, H', (I'.unpinned (pins := [])).weak hl (fun j v e => ?_), T.keep _ _ _ st7 fun b hb o e => (pin' b hb o e).1, fun b hb => ?_, w'⟩
        · rw [← hw8] at e
          exact (wipe_some e).1
        · obtain ⟨o, e, _⟩ := T.obj _ _ st7 b hb
          exact (pin' b hb o e).2
      cases b with
      | false =>
        simp only [Bool.false_eq_true, if_false] at q9 ⊢
        exact fin I9 q9
      | true =>
        simp only [if_true] at q9 ⊢
        refine thnF (pe.run _ s9 σ8 H9 _ I9 q9) fun z s10 ⟨yv, H10, I10, r10, acc, hD10, hz10, nx⟩ => ?_
        exact app_ok (X := blkH X s3 H3 scope ce fp p) I10 hD10 hz10 r10 fun s11 I11 => fin I11 nx
  exact codeAny_compStart_list loop (T.self X.A 0 _ _ _ st4 loop)
theorem pe_lcH {p : Addr × Obj} {elt tg iter : Expr} {ifs : List Expr} {scope : Scope} {own : List (Str × Nat)} {pos : Pos} {wi : TI} {g : TG} {tt : TT} {te : TE} (hot : Hot1 X.A p) (hp : p ∈ X.pn) (hN : X.N.Nodup) (hi : PIH X tg iter wi) (ok : BlkOk X.N X.env.scope scope own)
    (hg : ∀ (s : Shared) (H : Hp) (C : Addr) (cl : List (Str × Addr)) (fp : List Addr), PG (blkH X s H scope (compEnvC scope cl C X.env) fp p) tg g) (ht : ∀ (s : Shared) (H : Hp) (C : Addr) (cl : List (Str × Addr)) (fp : List Addr), PTs (blkH X s H scope (compEnvC scope cl C X.env) fp p) ifs tt)
    (he : ∀ (s : Shared) (H : Hp) (C : Addr) (cl : List (Str × Addr)) (fp : List Addr), PE (blkH X s H scope (compEnvC scope cl C X.env) fp p) elt te) (hs : ∀ x, foldedSetIterable iter X.env x = pure x := by intro _; rfl) :
    PE X (.ListComp elt [⟨tg, iter, ifs, 0⟩] scope pos) (tLc wi g tt te (own.map (·.2))) := by
  refine ⟨fun pins s σ H Q I h => ?_⟩
  rw [eval_ListComp]
  refine lc_coreH hot hp hN I hi ok hg ht he hs h fun D C s' m H' I' q hn f => ⟨m, hn, fun h'' sb => ?_⟩
  obtain ⟨f0, f1, f2, f3, f4, f5⟩ := f
  exact ⟨.ref D, H', I'.turned (t' := s'.toks) (fun b o hb e => (sb.2 b hb).trans e) f0 f1 f3 f4 f5, rfl, q⟩
/-- isinstance(e, c), e the exception that is handled -/
theorem call_isP {a D : Addr} {oe : Obj} (C : ExcC X.K D) (hp : (a, oe) ∈ X.pn) (hz : Zc (.ref D) none oe) (hf : ∃ vs, oe.data = .fields vs) : CallR X (.builtin "isinstance") (rIsE X.K D a) := by
  intro pins s σ H xs us Q I r h
  obtain ⟨c, cv, b, rfl, hcv, e, q⟩ := h
  cases r with
  | cons rx rr =>
    cases rr with
    | cons rt rr =>
      cases rr
      cases rx
      have ec := hcv _ rt
      subst ec
      have hget := (I.pin (a, oe) (List.mem_append.mpr (.inl hp))).1
      obtain ⟨vs, hv⟩ := hf
      have J : PySem.W.InstAt s.heap a oe D none := by
        obtain ⟨oc, od, oda, osl⟩ := oe
        obtain ⟨h1, h2⟩ := hz
        dsimp only at h1 h2 hv
        subst h1 h2 hv
        exact ⟨hget, rfl, rfl, trivial⟩
      exact PySem.W.kia_one (PySem.W.handS_kitx_exc C.hg C.hk C.hs C.hd C.ha C.hn C.ht C.hm) I.kIn J e (fun z => nomatch z) fun tk => ⟨.bl b, H, I.kept (t' := tk) fun _ _ z => z, rfl, q⟩
end
end QW

end
section
/-! a def called within an except suite, asked about the handled exception; try with one except clause -/
namespace QW
open PySem PySem.Spec PyProof.Rows L2 L2H
abbrev Grow (H H' : Hp) : Prop := ∀ b o, H b = some o → H' b = some o
theorem Grow.upd {H : Hp} {p : Addr} {o : HO} (h : H p = none) : Grow H (L2.upd H p o) := fun b u e => by
  rw [upd_ne (ne_of_none e h)]; exact e
theorem RR.grow {K : PySem.W.Frag} {L : Nat → Option Addr} {ll : LK} {S H H' : Hp} {ρ : List Sl} {σ : St} (r : RR K L ll S ρ σ H) (g : Grow H H') : RR K L ll S ρ σ H' where
  len := r.len
  ex := fun a o e n => g _ _ (r.ex a o e n)
  lk := fun a h => by
    obtain ⟨ob, o, nf, nt, e, eh⟩ := r.lk a h
    exact ⟨ob, o, nf, nt, e, g _ _ eh⟩
  nf := r.nf
  lo := fun a ob h => by
    obtain ⟨u, e⟩ := r.lo a ob h
    exact ⟨u, g _ _ e⟩
  sh := r.sh
  ow := fun i l d h => by
    obtain ⟨a, e, n, ob, k⟩ := r.ow i l d h
    obtain ⟨u, q, _⟩ := ob.some
    exact ⟨a, e, n, ob.mono (Sub.refl S) ((g _ _ q).trans q.symm), k⟩
  ln := r.ln
  sep := r.sep
theorem Tr.grow {S S1 H H1 H' : Hp} {ρ ρ1 : List Sl} {σ σ1 : St} (t : Tr S ρ σ H S1 ρ1 σ1 H1) (g : Grow H1 H') : Tr S ρ σ H S1 ρ1 σ1 H' where
  ex := t.ex
  fr := fun a o e n => g _ _ (t.fr a o e n)
  nw := t.nw
  ns := t.ns
  dm := fun a h z => by
    cases e : H1 a with
    | none => exact t.dm a h e
    | some o => rw [g _ _ e] at z; cases z
/-! ### defs while p is handled -/
structure FnP (P : Program) (w : World) (K : PySem.W.Frag) (mg : Str → Option Value) (base : Heap) (CX : CXT) (k : Nat) (f : Addr) (fd : FuncData) (ps : List Str) (p : Addr × Obj) (sp : Sp) : Prop where
  len : ∀ vs H Q E, sp vs H Q E → vs.length = ps.length
  run : ∀ (A : Around) (outer : List PySem.Env) (s : Shared) (H : Hp) (args : Args) (us : List Value) (vs : List V) (Q : VK) (E : XK), RoomH k A → Hot1 A p → PinOk outer H s p → Env0 P w K mg base A outer s H → BindsTo s fd args (ps.zip us) → Vals vs us → sp vs H Q E →
    codeAny (model P w) A (.call (.ref f) args) (CR CX outer P w H s Q E) s
theorem fn_ofP {CX : CXT} {P : Program} {w : World} {K : PySem.W.Frag} {mg : Str → Option Value} {base : Heap} {k : Nat} {x qual : Str} {st : Stmt} {f : Addr} {fd : FuncData} {N ps : List Str} {p : Addr × Obj} {sp : Sp} (F : Fun K x qual st f fd) (S : FnScope N ps (defScope st))
    (len : ∀ vs H Q E, sp vs H Q E → vs.length = ps.length)
    (hbody : ∀ (cdv : Value) (A : Around) (outer : List PySem.Env) (s : Shared) (H : Hp) (vs : List V) (Q : VK) (E : XK), Hot1 A p → RoomH k (A.deeper (envOfC qual (defScope st) s.heap.objs.size f cdv)) → sp vs H Q E →
      ∃ t, PSs (cxH CX P w K mg base N qual (defScope st) f cdv A outer s H E p) (defBody st) t ∧ t { nx := fun _ H' => Q .non H', rt := Q } (L2.start N vs) H) :
    FnP P w K mg base CX (k + 1) f fd ps p sp := by
  obtain ⟨oc, od, kV, doc, pm, an, cdv, ct, osl, rfl, lk, hcd⟩ := F.ex
  refine ⟨len, fun A outer s H args us vs Q E hr hot hpin e0 hb r hsp => ?_⟩
  have hl := len _ _ _ _ hsp
  have KX : K.In s.heap := e0.mod.kin.keeps fun b o e => (e0.bs b o e).1
  have lim : s.heap.NoLimit := e0.mod.nolimit.keeps fun b o e => (e0.bs b o e).1
  have hkind : ∀ y ∈ ps.zip us, (defScope st).names.lookup y.1 = some .local ∨ ((defScope st).names.lookup y.1 = some .cell ∧ ((cellsFrom (s.heap.objs.size + 1) (defScope st).names []).lookup y.1).isSome = true) := fun ⟨n, v⟩ hy => by
    rcases S.par n (List.of_mem_zip hy).1 with q | q
    · exact .inl q
    · exact .inr ⟨q, PySem.W.cellsFrom_some _ _ _ (.inl q)⟩
  refine codeAny_call_function hr.depth (KX _ _ lk) rfl S.co S.gen rfl (PySem.W.codeRec_of KX hcd) (hb _ _ _ _ ?_)
  refine wpAny_newFunctionEnv_cells S.kind hkind fun env he s1 x => ?_
  subst he
  refine ⟨lim.keeps x.toInCall.keep, codeAny_func ?_⟩
  obtain ⟨t, ht, hq⟩ := hbody cdv A outer s H vs Q E hot (hr.deeper _) hsp
  have I : Inv (cxH CX P w K mg base N qual (defScope st) f cdv A outer s H E p) [] (L2.start N vs) H s1 := inv_startH S hpin e0 hl r x
  refine wpAny_mono (ht.run [] s1 (L2.start N vs) H _ I hq) (fun fl s' hs => ?_) fun e s' hs => hs
  have fin : ∀ {σ' : St} {H' : Hp} {v : V} {u : Value}, Inv (cxH CX P w K mg base N qual (defScope st) f cdv A outer s H E p) [] σ' H' s' → RelV v u → Q v H' → CE outer P w H s Q u s' :=
    fun {σ' H' v u} J rv q => ⟨v, H', J.os, J.bare, J.base, J.hok, rv, q⟩
  cases fl with
  | ret u =>
    obtain ⟨v, σ', H', J, rv, q⟩ := hs
    exact fin J rv q
  | next =>
    obtain ⟨σ', H', J, q⟩ := hs
    exact fin (v := V.non) (u := Value.none) J rfl q
  | brk =>
    obtain ⟨_, _, _, q⟩ := hs
    exact False.elim q
  | cont =>
    obtain ⟨_, _, _, q⟩ := hs
    exact False.elim q
section
variable {X : Cx} {CX : CXT} {k : Nat} {f : Addr} {fd : FuncData} {ps : List Str} {p : Addr × Obj} {sp : Sp} {x : Str} {q pos : Pos} {e : Expr} {es : List Expr} {t : TA}
theorem pe_callP (F : FnP X.prog X.w X.K X.mg X.base CX k f fd ps p sp) (hr : RoomH k X.A) (hot : Hot1 X.A p) (hp : p ∈ X.pn) (hg : Gl X x) (hm : X.mg x = some (.ref f)) (hk : PySem.W.keepIn X.K (.ref f) = true) (hb : Binds X.K fd ps []) (hx : ∀ σ, PassesAt CX X σ fun _ _ _ => False)
    (ha : PA X (e :: es) t) (hdb : (x == ("__debug__" : Str)) = false := by decide) (he : starEach (e :: es) X.env = (false, eval e X.env) :: starEach es X.env := by rfl) (hpl : (backTo pos (starEach es X.env)).any (·.1) = false := by rfl) :
    PE X (.Call (.Name x q) (e :: es) [] pos) (fun σ H Q => t σ H fun vs H1 => sp vs H1 Q fun _ _ _ => False) := by
  refine ⟨fun pins s σ H Q I h => ?_⟩
  refine wpAny_Call_Name_kw (ld_glob I hg hm ?_ hdb)
  refine PySem.W.callWith_K (h₀ := X.base) I.ok.mod.kin hk (thn (ha.run pos pins s σ H _ I h) fun us s1 ⟨vs, H1, I1, r, q⟩ => ⟨I1.kIn, ?_⟩) he hpl
  have hl : us.length = ps.length := by rw [← r.length]; exact F.len _ _ _ _ q
  have b := hb s1 us I1.kIn (by rw [List.append_nil]; exact hl)
  rw [List.append_nil] at b
  have P1 := I1.pin p (List.mem_append_left _ hp)
  have hpin : PinOk X.stack H1 s1 p := ⟨P1.1, P1.2.1, fun hm => (List.mem_cons.mp (I1.stkSub p.1 hm)).elim P1.2.2.1 P1.2.2.2.1, P1.2.2.2.2⟩
  refine wpAny_call (codeAny_mono (F.run X.A X.stack s1 H1 ⟨us, []⟩ us vs Q (fun _ _ _ => False) hr hot hpin I1.env0 b r q) fun r s' hq => ?_)
  cases r with
  | error e => exact hx σ pins H1 s1 e s' I1 hq
  | ok fl =>
    cases fl with
    | ret u => exact I1.after hq
    | next => exact False.elim hq
    | brk => exact False.elim hq
    | cont => exact False.elim hq
end
/-! ### the tests of the handled exception -/
section
variable {X : Cx} {pos : Pos} {i : Nat} {a D : Addr} {oe : Obj} {e : Expr} {es : List Expr}
def tB1 (i : Nat) (a : Addr) (b : Bool) : TE := fun σ H Q => σ[i]? = some (some (.ref a)) ∧ Q (.bl b) H
def tBs (i : Nat) (a : Addr) (bs : List Bool) : TA := fun σ H Q => σ[i]? = some (some (.ref a)) ∧ Q (bs.map V.bl) H
def tBl (i : Nat) (a : Addr) (bs : List Bool) : TE := fun σ H Q => σ[i]? = some (some (.ref a)) ∧ ∀ p H', Grow H H' → H p = none → H' p = some (.lst (bs.map V.bl)) → Q (.ref p) H'
theorem pe_isP {x name : Str} {cv : Value} {c : V} {b : Bool} {q p1 p2 : Pos} (C : ExcC X.K D) (hp : (a, oe) ∈ X.pn) (hz : Zc (.ref D) none oe) (hf : ∃ vs, oe.data = .fields vs) (hg : Gl X "isinstance") (hm : X.mg "isinstance" = none)
    (hc : PE X (.Name name p2) (tC c)) (hcv : ∀ u, RelV c u → u = cv) (hk : PySem.W.kitOne X.K (.ref D) cv = some b)
    (hN : X.N[i]? = some x := by rfl) (hv : Vis X.env.scope x := by first | exact Or.inl rfl | exact Or.inr (Or.inl rfl) | exact Or.inr (Or.inr rfl)) (hd : (x == ("__debug__" : Str)) = false := by decide) (hcd : (x == ("__classdict__" : Str)) = false := by decide)
    (hs : starEach [.Name x p1, .Name name p2] X.env = (false, eval (.Name x p1) X.env) :: starEach [.Name name p2] X.env := by rfl) (hpl : (backTo pos (starEach [.Name name p2] X.env)).any (·.1) = false := by rfl)
    (hs2 : starEach [.Name name p2] X.env = (false, eval (.Name name p2) X.env) :: starEach [] X.env := by rfl) : PE X (.Call (.Name "isinstance" q) [.Name x p1, .Name name p2] [] pos) (tB1 i a b) := by
  refine PE.weak (pe_callB (call_isP C hp hz hf) hg hm PyProof.Rows.boot_isinstance (pa_cons (pe_var hN hv hd hcd) (pa_cons hc pa_nil hs2) hs) (by decide) (by decide) hs hpl) fun σ H Q h => ?_
  exact ⟨_, h.1, c, cv, b, rfl, hcv, hk, h.2⟩
theorem pa_is0 : PA X [] (tBs i a []) := PA.weak pa_nil fun σ H Q h => h.2
theorem pa_is {b : Bool} {bs : List Bool} (h : PE X e (tB1 i a b)) (hr : PA X es (tBs i a bs)) (hs : starEach (e :: es) X.env = (false, eval e X.env) :: starEach es X.env := by rfl) : PA X (e :: es) (tBs i a (b :: bs)) :=
  PA.weak (pa_cons h hr hs) fun σ H Q h => ⟨h.1, h.1, h.2⟩
theorem pe_isL {bs : List Bool} (h : PA X es (tBs i a bs)) (hl : bs.length ≤ 100 := by first | decide | simp) : PE X (.List es pos) (tBl i a bs) :=
  PE.weak (pe_lst h) fun σ H Q h => ⟨h.1, by rw [List.length_map]; exact Nat.le_trans hl (by decide), fun p hp => h.2 p _ (Grow.upd hp) hp upd_same⟩
theorem kind_go {b1 b2 b3 : List Bool} {W : WX} {L : Nat → Option Addr} {f : CS} {t : List Nat} {ρ' : EnvQ} {En : Ends} {H : Hp} (hl : b1.length + b2.length + b3.length ≤ 100) (hL : ∀ i, L i = none)
    (hf : f [.un, .sh (.lst ((b1 ++ b2 ++ b3).map QW.D.bl)), .un, .un] = .ok (.rt (.sh (.str t)) ρ')) (hrt : ∀ H', Grow H H' → En.rt (.str (tS t)) H') :
    tSeq (tAsg (tBl 0 a b1) (gName 1)) (tSeq (tAsg (tOp rCat (tVar 1) (tBl 0 a b2)) (gName 1)) (tSeq (tAsg (tOp rCat (tVar 1) (tBl 0 a b3)) (gName 1)) (rdS X W L f))) En [some (.ref a), none, none, none] H := by
  refine ⟨rfl, fun p1 H1 g1 n1 e1 => ?_⟩
  refine ⟨.ref p1, rfl, rfl, fun p2 H2 g2 n2 e2 => ⟨p1, p2, _, _, rfl, rfl, g2 _ _ e1, e2, by simp only [List.length_map]; exact Nat.le_trans (by omega) (show 100 ≤ sizeLine by decide), fun p3 n3 => ?_⟩⟩
  have g3 : Grow H2 (upd H2 p3 (.lst (b1.map V.bl ++ b2.map V.bl))) := Grow.upd n3
  refine ⟨.ref p3, rfl, rfl, fun p4 H4 g4 n4 e4 => ⟨p3, p4, _, _, rfl, rfl, g4 _ _ upd_same, e4, by simp only [List.length_append, List.length_map]; exact Nat.le_trans (by omega) (show 100 ≤ sizeLine by decide), fun p5 n5 => ?_⟩⟩
  have g5 : Grow H4 (upd H4 p5 (.lst (b1.map V.bl ++ b2.map V.bl ++ b3.map V.bl))) := Grow.upd n5
  have gAll : Grow H (upd H4 p5 (.lst (b1.map V.bl ++ b2.map V.bl ++ b3.map V.bl))) := fun b o e => g5 _ _ (g4 _ _ (g3 _ _ (g2 _ _ (g1 _ _ e))))
  have reps : ∀ (S : Hp) (bs : List Bool), Reps X.K S (bs.map QW.D.bl) (bs.map V.bl) := fun S bs => by
    induction bs with
    | nil => exact .nil
    | cons b r ih => exact .cons (.bl b) ih
  have slot : ∀ (j : Nat) (s : Sl), ([.un, .sh (.lst ((b1 ++ b2 ++ b3).map QW.D.bl)), .un, .un] : List Sl)[j]? = some s → s = .un ∨ (j = 1 ∧ s = .sh (.lst ((b1 ++ b2 ++ b3).map QW.D.bl))) := fun j s e => by
    match j, e with
    | 0, e => cases e; exact .inl rfl
    | 1, e => cases e; exact .inr ⟨rfl, rfl⟩
    | 2, e => cases e; exact .inl rfl
    | 3, e => cases e; exact .inl rfl
    | (n + 4), e => cases e
  have rr : RR X.K L .nil (fun b => if b = p5 then some (.lst (b1.map V.bl ++ b2.map V.bl ++ b3.map V.bl)) else none) [.un, .sh (.lst ((b1 ++ b2 ++ b3).map QW.D.bl)), .un, .un] [some (.ref a), some (.ref p5), none, none] (upd H4 p5 (.lst (b1.map V.bl ++ b2.map V.bl ++ b3.map V.bl))) := by
    refine ⟨rfl, fun b o e _ => ?_, fun b h => absurd h LK.no, fun b ob h => (nomatch h), fun b o u e => ?_, fun j d e => ?_, fun j l d e => ?_, fun j b e => ?_, fun j k l m d e' b h1 => ?_⟩
    · by_cases z : b = p5
      · subst z
        rw [if_pos rfl] at e
        rw [upd_same]; exact e
      · rw [if_neg z] at e; cases e
    · by_cases z : b = p5
      · subst z
        rw [if_pos rfl] at e; cases e
      · rw [if_neg z] at e; cases e
    · rcases slot j _ e with z | ⟨rfl, z⟩
      · cases z
      · cases z
        refine ⟨.ref p5, rfl, .lst (if_pos rfl) ?_⟩
        rw [List.map_append, List.map_append]
        exact ((reps _ b1).append (reps _ b2)).append (reps _ b3)
    · rcases slot j _ e with z | ⟨_, z⟩ <;> cases z
    · rw [hL] at e; cases e
    · rcases slot j _ h1 with z | ⟨_, z⟩ <;> cases z
  refine ⟨.nil, _, _, rr, ?_⟩
  rw [hf]
  intro S' σ' v H' r' t' ret
  cases (show Rep X.K S' (.str t) v from ret)
  refine hrt H' fun b o e => t'.fr b o (gAll _ _ e) fun ⟨j, l, d, h1, _⟩ => ?_
  rcases slot j _ h1 with z | ⟨_, z⟩ <;> cases z
end
end QW

end
section
/-! raise, try, comprehensions within a suite -/
namespace QW
open PySem PySem.Spec PyProof.Rows L2 L2H
section
variable {X : Cx} {W : WX} {L : Nat → Option Addr} {elt iter e tg : Expr} {ifs : List Expr} {pos : Pos} {fe : CE1} {fi : CI} {ct : CB} {fl : CL} {ll : LK} {S S1 S2 : Hp} {ρ ρ1 ρ2 ρ' : EnvQ} {σ σ' σ1 : St} {H H' H1 H2 : Hp}
/-! a comprehension over a range while p is handled -/
theorem PIH.weak {t t' : TI} (h : PIH X tg e t) (w : ∀ σ H Q, t' σ H Q → t σ H Q) : PIH X tg e t' := ⟨fun pins s σ H Q I q => h.run pins s σ H Q I (w σ H Q q)⟩
structure VIH (X : Cx) (W : WX) (L : Nat → Option Addr) (tg e : Expr) (f : CI) : Prop where
  pi : PIH X tg e (rdI X W L f)
theorem vi_range1H {a : Expr} {fl : CL} {p : Pos} (hg : Gl X "range") (hm : X.mg "range" = none) (ha : VA X W L [a] fl) (hs : starEach [a] X.env = [(false, eval a X.env)] := by rfl) : VIH X W L tg (.Call (.Name "range" p) [a] [] pos) (iRng1' fl) := by
  refine ⟨PIH.weak (pi_range1H hg hm ha.pa hs) fun σ H Q h => ?_⟩
  refine rdIL_bind h fun ll S ρ S1 vs H1 rs ρ1 r1 t1 q1 g => ?_
  dsimp only at g
  split at g
  · rename_i j eo
    by_cases hj : -(2 ^ 62) ≤ j ∧ j < 2 ^ 62
    · rw [if_pos hj] at g
      refine ⟨j, (q1.opds r1 eo).ints1, hj.1, hj.2, g S1 _ H1 r1 t1 (rng_walk (by simp))⟩
    · rw [if_neg hj] at g; exact g.elim
  · exact g.elim
theorem v_compH {q : Addr × Obj} {j : Nat} {x : Str} {p : Pos} {scope : Scope} (hot : Hot1 X.A q) (hq : q ∈ X.pn) (hN : X.N.Nodup) (hi : VIH X W L (.Name x p) iter fi) (ok : blkC X.N X.env.scope scope [(x, j)] = true)
    (ht : ∀ (s : Shared) (H : Hp) (C : Addr) (cl : List (Str × Addr)) (fp : List Addr), VTs (blkH X s H scope (compEnvC scope cl C X.env) fp q) W0 L ifs ct)
    (he : ∀ (s : Shared) (H : Hp) (C : Addr) (cl : List (Str × Addr)) (fp : List Addr), VE (blkH X s H scope (compEnvC scope cl C X.env) fp q) W0 L elt fe)
    (hj : X.N[j]? = some x := by rfl) (hx : Loc (relS scope X.env.scope) x := by first | exact .inl rfl | exact .inr rfl) (hf : (scope.names.lookup x == some NameKind.cell) = true ∨ (relS scope X.env.scope).names.lookup x = some .local := by first | exact .inl rfl | exact .inr rfl)
    (hs : ∀ x, foldedSetIterable iter X.env x = pure x := by intro _; rfl) : VE X W L (.ListComp elt [⟨.Name x p, iter, ifs, 0⟩] scope pos) (eComp j fi ct fe) := by
  refine ⟨PE.weak (pe_lcH (own := [(x, j)]) (g := gName j) (tt := fun σ H Q => ∃ ll S ρ, RR X.K L ll S ρ σ H ∧ GoB { X with xe := fun _ _ => False } W0 L ll S ρ σ H (ct ρ) Q) (te := fun σ H Q => ∃ ll S ρ, RR X.K L ll S ρ σ H ∧ GoE { X with xe := fun _ _ => False } W0 L ll S ρ σ H (fe ρ) Q) hot hq hN hi.pi (blkOk_by ok) (fun s H C cl fp => pg_name (i := j) hN hj hx hf) (fun s H C cl fp => (ht s H C cl fp).pts) (fun s H C cl fp => (he s H C cl fp).pe) hs) fun σ H Q h => ?_⟩
  exact comp_go (vs := [j]) rfl (fun s H C cl fp => blkH X s H scope (compEnvC scope cl C X.env) fp q) h
/-! raise -/
/-- an own class without own __init__, below ValueError -/
structure ExcV (K : PySem.W.Frag) (mg : Str → Option Value) (c : String) : Prop where
  ex : ∃ C, mg (Str.ofString c) = some (.ref C) ∧ PySem.W.excIn K C [.type "ValueError", .type "Exception", .type "BaseException", .type "object"] "ValueError.__new__" = true ∧ PySem.W.keepIn K (.ref C) = true ∧ PySem.W.subIn K (.ref C) (.type "BaseException") = some true ∧ PySem.W.typeIn K (.ref C) = some (.type "type")
def sRaise (c : String) : CS := fun ρ => .exc c ρ
theorem vs_raise {c : String} {m : Str} {j : Nat} {p p2 pos2 : Pos} (hc : X.calm = true) (tk : L2N.Takes X W) (F : ExcV X.K X.mg c) (hg : Gl X (Str.ofString c)) (hdb : (Str.ofString c == ("__debug__" : Str)) = false := by decide) : VS X W L (.Raise (some (.Call (.Name (Str.ofString c) p) [.Constant (.str m) j p2] [] pos)) none pos2) (sRaise c) := by
  obtain ⟨C, gC, q, kC, s1, t1⟩ := F.ex
  refine ⟨PS.weak (L2N.ps_raise hc tk (L2N.pmk_own PySem.F.excBase_ValueError q gC kC (raises_own s1 t1) hg hdb)) fun σ H D h => ?_⟩
  obtain ⟨ll, S, ρ, rr, g⟩ := h
  exact g S σ H C rr Tr.refl gC
/-! try -/
def sTry (i j : Nat) (T : String → Option (List Nat)) (f : CS) : CS := fun ρ => match f ρ with
  | .ok a => .ok a
  | .stuck => .stuck
  | .exc c ρ' => match T c, ρ'[i]?, ρ'[j]? with
    | some t, some si, some sj => if si.free = true ∧ sj.free = true ∧ i ≠ j then .ok (.nx ((ρ'.set i .un).set j (.sh (.str t)))) else .stuck
    | _, _, _ => .stuck
theorem Tr.drop (t : Tr S ρ σ H S1 ρ1 σ1 H1) {j : Nat} : Tr S ρ σ H S1 (ρ1.set j .un) (σ1.set j none) H1 where
  ex := t.ex
  fr := t.fr
  nw := fun a z => by
    obtain ⟨k, l, d, h1, h2⟩ := z
    by_cases y : k = j
    · subst y
      have hk := (List.getElem?_eq_some_iff.mp h1).1
      rw [List.length_set] at hk
      rw [List.getElem?_set_self hk] at h1
      cases h1
    · rw [List.getElem?_set_ne (Ne.symm y)] at h1 h2
      exact t.nw a ⟨k, l, d, h1, h2⟩
  ns := t.ns
  dm := t.dm
/-- the def that tells which refusals an exception is -/
def spK (p : Addr × Obj) (t : List Nat) : Sp := fun vs H Q _ => vs = [.ref p.1] ∧ ∀ H', Grow H H' → Q (.str (tS t)) H'
structure KindV (P : Program) (w : World) (K : PySem.W.Frag) (mg : Str → Option Value) (base : Heap) (k : Nat) (T : String → Option (List Nat)) : Prop where
  ex : ∃ (f : Addr) (fd : FuncData), mg "_law_kind" = some (.ref f) ∧ PySem.W.keepIn K (.ref f) = true ∧ Binds K fd ["e"] [] ∧ ∀ (p : Addr × Obj) (c : String) (t : List Nat) (C : Addr), T c = some t → mg (Str.ofString c) = some (.ref C) → L2N.Zn (.ref C) none p.2 → (∃ vs, p.2.data = .fields vs) →
    FnP P w K mg base (L2N.CX P w) k f fd ["e"] p (spK p t)
  exm : ∃ CQ, mg "QuadError" = some (.ref CQ) ∧ ∀ (c : String) (t : List Nat) (C : Addr), T c = some t → mg (Str.ofString c) = some (.ref C) → PySem.W.exmOne K (.ref C) (.ref CQ) = some true
/-- try: body / except QuadError as e: x = _law_kind(e) -/
theorem vs_try {k k' i j : Nat} {T : String → Option (List Nat)} {n x : Str} {body : List Stmt} {f : CS} {np pos' pos1 px pc pf pnn : Pos} (kv : KindV X.prog X.w X.K X.mg X.base k T) (hr : Room k' X.A) (hk : k ≤ k') (hs : X.stack = X.env :: X.outer) (hf : X.env.frame = some X.env.locals) (hN : X.N.Nodup) (tk : L2N.Takes X W) (hgQ : Gl X "QuadError") (hgK : Gl X "_law_kind")
    (hbody : ∀ (W' : WX) (pn : List (Addr × Obj)) (xe : Value → Shared → Prop), L2N.Takes (X.tr pn xe) W' → PassesOwn (model X.prog X.w) X.A X.env xe → VSs (X.tr pn xe) W' L body f)
    (hi : X.N[i]? = some n := by rfl) (hln : X.env.kindOf n = some .local := by rfl) (hj : X.N[j]? = some x := by rfl) (hx : Loc X.env.scope x := by first | exact Or.inl rfl | exact Or.inr rfl) (hfx : X.fn x = true ∨ X.env.scope.names.lookup x = some .local := by first | exact .inl rfl | exact .inr rfl)
    (hv : Vis X.env.scope n := by first | exact Or.inl rfl | exact Or.inr (Or.inl rfl) | exact Or.inr (Or.inr rfl)) (hd : (n == ("__debug__" : Str)) = false := by decide) (hcd : (n == ("__classdict__" : Str)) = false := by decide)
    (hsw : swapsWith (.Call (.Name "_law_kind" pf) [.Name n pnn] [] pc) (some (.Name x px)) pos1.line X.env = pure false := by rfl)
    (hs1 : starEach [.Name n pnn] X.env = (false, eval (.Name n pnn) X.env) :: starEach [] X.env := by rfl) :
    VS X W L (.Try body [.ExceptHandler (some (.Name "QuadError" np)) (some n) [.Assign [.Name x px] (.Call (.Name "_law_kind" pf) [.Name n pnn] [] pc) pos1] pos'] [] [] pos) (sTry i j T f) := by
  obtain ⟨fa, fd, hmK, hkK, hbK, hF⟩ := kv.ex
  obtain ⟨CQ, hmQ, hexm⟩ := kv.exm
  refine ⟨PS.weak (L2N.ps_try_as (c := .ref CQ) (i := i) (tb := fun W' => rdS X W' L f) (ts := fun a cls d En σ H => σ[i]? = some (some (.ref a)) ∧ ∃ c t C, cls = .ref C ∧ d = none ∧ T c = some t ∧ X.mg (Str.ofString c) = some (.ref C) ∧ ∀ H', Grow H H' → En.nx (σ.set j (some (.str (tS t)))) H')
    hs hf hN hi hln ⟨hgQ, by decide, .inl hmQ⟩ tk (fun W' pn xe tk' hp => (hbody W' pn xe tk' hp).pss) (fun a oe cls d pn hz hfl => ⟨fun pins s σ H En I h => ?_⟩)) fun σ H D h => ?_⟩
  · obtain ⟨h0, c, t, C, rfl, rfl, hT, hC, hgo⟩ := h
    have hfn := hF (a, oe) c t C hT hC hz hfl
    have hot : Hot1 (X.suite a ((a, oe) :: pn)).A (a, oe) := ⟨rfl, by
      obtain ⟨vs, e⟩ := hfl
      exact ⟨vs, e, hz.2.2 vs e⟩⟩
    have hrH : RoomH k (X.suite a ((a, oe) :: pn)).A := ⟨(hr.mono hk).dp, (hr.mono hk).un⟩
    have call : PE (X.suite a ((a, oe) :: pn)) (.Call (.Name "_law_kind" pf) [.Name n pnn] [] pc) _ := pe_callP (X := X.suite a ((a, oe) :: pn)) hfn hrH hot List.mem_cons_self hgK hmK hkK hbK (fun σ pins H s e s' I c => by
      obtain ⟨_, _, _, _, _, _, _, _, _, _, _, _, z⟩ := c
      exact z.elim) (pa_cons (pe_var hi hv hd hcd) pa_nil hs1) (by decide) hs1 rfl
    refine (pss_one (ps_set (X := X.suite a ((a, oe) :: pn)) hN hj hx call hsw hfx)).run pins s σ H En I ?_
    exact ⟨.ref a, h0, rfl, hgo⟩
  · obtain ⟨ll, S, ρ, rr, g⟩ := h
    refine ⟨ll, S, ρ, rr, ?_⟩
    unfold sTry at g
    cases e1 : f ρ with
    | stuck => rw [e1] at g; exact g
    | ok a => rw [e1] at g; cases a <;> exact g
    | exc c ρ' =>
      rw [e1] at g
      dsimp only at g
      split at g
      · rename_i t si sj hT hsi hsj
        split at g
        · rename_i hh
          obtain ⟨h1, h2, hij⟩ := hh
          intro S' σ' H' C r' t' hC
          refine ⟨true, hexm c t C hT hC, fun _ a ha => ?_, fun z => by cases z⟩
          have hil : i < σ'.length := by rw [← r'.len]; exact (List.getElem?_eq_some_iff.mp hsi).1
          refine ⟨List.getElem?_set_self hil, c, t, C, rfl, rfl, hT, hC, fun H2 gr => ?_⟩
          have hLi : L i = none := by
            cases e : L i with
            | none => rfl
            | some b =>
              obtain ⟨d, p⟩ := r'.ln i b e
              rw [hsi] at p; cases p
              cases h1
          have e2 : ((σ'.set i (some (.ref a))).set j (some (.str (tS t)))).set i none = (σ'.set i none).set j (some (.str (tS t))) := by
            rw [List.set_comm _ _ (Ne.symm hij), List.set_set]
          show D.nx _ H2
          rw [e2]
          have r2 := (r'.drop hLi).store (i := j) (s := .sh (.str t)) (v := .str (tS t)) ⟨sj, by rw [List.getElem?_set_ne hij]; exact hsj, h2⟩ rfl (fun d z => by cases z; exact .str t) (fun _ _ z => nomatch z)
          have t2 := (t'.drop (j := i)).store (i := j) (s := .sh (.str t)) (v := .str (tS t)) (r'.drop hLi).len (fun _ _ z => nomatch z)
          exact g S' _ H2 (r2.grow gr) (t2.grow gr)
        · exact g.elim
      · exact g.elim
end
end QW

end
section
/-! what a law's text needs: levels, written tuples and texts, the def that tells refusals -/
namespace QW
open PySem PySem.Spec PyProof.Rows L2 L2H
theorem hu5_of {k : Nat} {A : Around} (r : Room k A) : A.units + 65 < cLine := by have := r.un; omega
theorem hu4_of {k : Nat} {A : Around} (r : Room k A) : A.units + 64 < cLine := by have := r.un; omega
theorem hu1_of {k : Nat} {A : Around} (r : Room k A) : A.units + 1 < cLine := by have := r.un; omega
theorem hu1_ofH {k : Nat} {A : Around} (r : RoomH k A) : A.units + 1 < cLine := by have := r.un; omega
theorem takesN0 {X : Cx} : L2N.Takes X W0 := fun _ _ x => by
  obtain ⟨_, _, _, _, _, _, _, _, _, _, _, _, _, _, _, _, z⟩ := x
  exact z.elim
section
variable {P : Program} {w : World} {K : PySem.W.Frag} {mg : Str → Option Value} {base : Heap}
theorem fn_stuck {x qual : Str} {st : Stmt} {f : Addr} {fd : FuncData} {N ps : List Str} {k n : Nat} (F : Fun K x qual st f fd) (Sc : FnScope N ps (defScope st)) (hn : ps.length = n) (hm : mg x = some (.ref f)) (hb : Binds K fd ps []) : FnV P w K mg base k x n (fun _ => .stuck) := by
  refine ⟨f, fd, ps, ⟨fun vs H Q E h => h.1.trans hn.symm, fun A outer s H args us vs Q E _ _ _ _ h => ?_⟩, hm, F.kp, hb⟩
  obtain ⟨_, L, ll, S, as, _, g⟩ := h
  exact g.elim
end
/-- a written tuple -/
structure GTup (K : PySem.W.Frag) (mg : Str → Option Value) (x : Str) (ds : List D) : Prop where
  ex : ∃ a o its n vs, mg x = some (.ref a) ∧ K.lookup a = some o ∧ o.cls = .type "tuple" ∧ o.data = .seq its n ∧ its.size ≤ sizeLine ∧ Vals vs its.toList ∧ ∀ S, Reps K S ds vs
section
variable {X : Cx} {W : WX} {L : Nat → Option Addr} {pos : Pos}
theorem v_gtup {x : Str} {ds : List D} (G : GTup X.K X.mg x ds) (hg : Gl X x) (hd : (x == ("__debug__" : Str)) = false := by decide) : VE X W L (.Name x pos) (eC (.ctup ds)) := by
  obtain ⟨a, o, its, n, vs, h1, h2, h3, h4, h5, h6, h7⟩ := G.ex
  exact v_glob (v := .ref a) hg h1 rfl hd fun S => .ctup (.inr ⟨o, its, n, h2, h3, h4, h5, h6⟩) (h7 S)
theorem v_gstr {x : Str} {t : List Nat} (G : ∃ tk, X.mg x = some (.str (tS t) tk)) (hg : Gl X x) (hd : (x == ("__debug__" : Str)) = false := by decide) : VE X W L (.Name x pos) (eC (.str t)) := by
  obtain ⟨tk, h⟩ := G
  exact v_glob (v := .str (tS t)) hg h ⟨tk, rfl⟩ hd fun S => .str t
theorem v_gint {x : Str} {i : Int} (G : ∃ tk, X.mg x = some (.int i tk)) (hg : Gl X x) (hd : (x == ("__debug__" : Str)) = false := by decide) : VE X W L (.Name x pos) (eC (.int i)) := by
  obtain ⟨tk, h⟩ := G
  exact v_glob (v := .int i) hg h ⟨tk, rfl⟩ hd fun S => .int i
/-! the refusals -/
/-- what isinstance and except say of the class c's exceptions -/
structure ExcK (K : PySem.W.Frag) (mg : Str → Option Value) (c : String) (bs : List (String × Bool)) : Prop where
  ex : ∃ D, mg (Str.ofString c) = some (.ref D) ∧ ExcC K D ∧ (∃ Q, mg "QuadError" = some (.ref Q) ∧ PySem.W.exmOne K (.ref D) (.ref Q) = some true) ∧ (∀ x b, (x, b) ∈ bs → ∃ A, mg (Str.ofString x) = some (.ref A) ∧ PySem.W.kitOne K (.ref D) (.ref A) = some b) ∧ PySem.W.kitOne K (.ref D) (.type "ValueError") = some true
theorem pe_isX {c : String} {bs : List (String × Bool)} {x : Str} {name : String} {b : Bool} {q p1 p2 : Pos} {a D : Addr} {oe : Obj} {i : Nat} (E : ExcK X.K X.mg c bs) (hD : X.mg (Str.ofString c) = some (.ref D)) (hp : (a, oe) ∈ X.pn) (hz : L2N.Zn (.ref D) none oe) (hf : ∃ vs, oe.data = .fields vs) (hg : Gl X "isinstance") (hm : X.mg "isinstance" = none)
    (hmem : (name, b) ∈ bs) (hgn : Gl X (Str.ofString name))
    (hN : X.N[i]? = some x := by rfl) (hv : Vis X.env.scope x := by first | exact Or.inl rfl | exact Or.inr (Or.inl rfl) | exact Or.inr (Or.inr rfl)) (hd : (x == ("__debug__" : Str)) = false := by decide) (hcd : (x == ("__classdict__" : Str)) = false := by decide) (hdn : (Str.ofString name == ("__debug__" : Str)) = false := by decide)
    (hs : starEach [.Name x p1, .Name (Str.ofString name) p2] X.env = (false, eval (.Name x p1) X.env) :: starEach [.Name (Str.ofString name) p2] X.env := by rfl) (hpl : (backTo pos (starEach [.Name (Str.ofString name) p2] X.env)).any (·.1) = false := by rfl)
    (hs2 : starEach [.Name (Str.ofString name) p2] X.env = (false, eval (.Name (Str.ofString name) p2) X.env) :: starEach [] X.env := by rfl) : PE X (.Call (.Name "isinstance" q) [.Name x p1, .Name (Str.ofString name) p2] [] pos) (tB1 i a b) := by
  obtain ⟨D', e, C, _, h, _⟩ := E.ex
  rw [hD] at e; cases e
  obtain ⟨A, mA, k⟩ := h name b hmem
  exact pe_isP (cv := .ref A) (c := .ref A) C hp hz.zc hf hg hm (pe_glob hgn mA rfl hdn) (fun u r => r) k hN hv hd hcd hs hpl hs2
theorem pe_isV {c : String} {bs : List (String × Bool)} {x : Str} {q p1 p2 : Pos} {a D : Addr} {oe : Obj} {i : Nat} (E : ExcK X.K X.mg c bs) (hD : X.mg (Str.ofString c) = some (.ref D)) (hp : (a, oe) ∈ X.pn) (hz : L2N.Zn (.ref D) none oe) (hf : ∃ vs, oe.data = .fields vs) (hg : Gl X "isinstance") (hm : X.mg "isinstance" = none)
    (hgn : Gl X "ValueError") (hmV : X.mg "ValueError" = none)
    (hN : X.N[i]? = some x := by rfl) (hv : Vis X.env.scope x := by first | exact Or.inl rfl | exact Or.inr (Or.inl rfl) | exact Or.inr (Or.inr rfl)) (hd : (x == ("__debug__" : Str)) = false := by decide) (hcd : (x == ("__classdict__" : Str)) = false := by decide)
    (hs : starEach [.Name x p1, .Name "ValueError" p2] X.env = (false, eval (.Name x p1) X.env) :: starEach [.Name "ValueError" p2] X.env := by rfl) (hpl : (backTo pos (starEach [.Name "ValueError" p2] X.env)).any (·.1) = false := by rfl)
    (hs2 : starEach [.Name "ValueError" p2] X.env = (false, eval (.Name "ValueError" p2) X.env) :: starEach [] X.env := by rfl) : PE X (.Call (.Name "isinstance" q) [.Name x p1, .Name "ValueError" p2] [] pos) (tB1 i a true) := by
  obtain ⟨D', e, C, _, _, k⟩ := E.ex
  rw [hD] at e; cases e
  exact pe_isP (cv := .type "ValueError") (c := .ty "ValueError") C hp hz.zc hf hg hm (pe_bltn hgn hmV (by first | rfl | decide +kernel) rfl) (fun u r => r) k hN hv hd hcd hs hpl hs2
end
theorem kit_of {K : PySem.W.Frag} {D A : Addr} {b : Bool} (hs : PySem.W.subIn K (.ref D) (.ref A) = some b) (hd : PySem.W.subIn K (.ref D) (.ref D) = some true) (hc : PySem.W.isClsIn K A = true) (ht : PySem.W.typeIn K (.ref A) = some (.type "type")) : PySem.W.kitOne K (.ref D) (.ref A) = some b := by
  unfold PySem.W.kitOne
  by_cases h : (Value.ref D == Value.ref A) = true
  · have e : D = A := Value.ref.inj (beq_iff_eq.mp h)
    subst e
    rw [if_pos h]
    rw [hd] at hs
    exact hs
  · rw [if_neg h]
    show (if ((PySem.W.clsIn K A).isSome && PySem.W.typeIn K (.ref A) == some (.type "type")) = true then PySem.W.subIn K (.ref D) (.ref A) else none) = some b
    have hc' : (PySem.W.clsIn K A).isSome = true := hc
    rw [if_pos (by rw [hc', ht]; rfl)]
    exact hs
theorem kit_val {K : PySem.W.Frag} {D : Addr} {b : Bool} (hs : PySem.W.subIn K (.ref D) (.type "ValueError") = some b) : PySem.W.kitOne K (.ref D) (.type "ValueError") = some b := by
  unfold PySem.W.kitOne
  have h : ¬ (Value.ref D == Value.type "ValueError") = true := fun z => by simp at z
  rw [if_neg h]
  show (if PySem.W.kitMeta "ValueError" = true then PySem.W.subIn K (.ref D) (.type "ValueError") else none) = some b
  rw [if_pos (by first | rfl | decide +kernel)]
  exact hs
/-! a law -/
def spL (K : PySem.W.Frag) : Sp := fun vs H Q _ => ∃ (a : Addr) (ns : List Int), vs = [.ref a] ∧ SqL K H a (ns.map V.int) ∧ ns.length ≤ 63 ∧ ∀ H', Q (.bl true) H'
theorem reps_int {K : PySem.W.Frag} (S : Hp) : ∀ ns : List Int, Reps K S (ns.map D.int) (ns.map V.int)
  | [] => .nil
  | n :: r => .cons (.int n) (reps_int S r)
def keepL : Option HO → Option HO
  | some (.lst v) => some (.lst v)
  | some (.frz o (.lst v)) => some (.frz o (.lst v))
  | _ => none
theorem keepL_some {x : Option HO} {o : HO} (h : keepL x = some o) : x = some o ∧ ∀ b u, o = .frz b u → lockable u = false := by
  unfold keepL at h
  split at h
  · cases h; exact ⟨rfl, fun _ _ z => nomatch z⟩
  · cases h; exact ⟨rfl, fun _ _ z => by cases z; rfl⟩
  · cases h
theorem law_imp {K : PySem.W.Frag} {mg : Str → Option Value} {F : Fn} (hok : ∀ ns : List Int, ns.length ≤ 63 → ∃ outs, F [.sh (.clst (ns.map D.int))] = .ok (.sh (.bl true), outs)) {vs : List V} {H : Hp} {Q : VK} {E : XK} (h : spL K vs H Q E) : spV K mg 1 F vs H Q E := by
  obtain ⟨a, ns, rfl, hS, hl, q⟩ := h
  obtain ⟨outs, e⟩ := hok ns hl
  refine ⟨rfl, fun _ => none, .nil, fun b => if b = a then keepL (H a) else none, [.sh (.clst (ns.map D.int))], ⟨rfl, fun b o e _ => ?_, fun b h => absurd h LK.no, fun b ob h => (nomatch h), fun b o u e => ?_, fun i d e => ?_, fun i l d e => ?_, fun i b e => ?_, fun i j l m d e' b h1 => ?_⟩, ?_⟩
  · by_cases z : b = a
    · subst z
      rw [if_pos rfl] at e; exact (keepL_some e).1
    · rw [if_neg z] at e; cases e
  · by_cases z : b = a
    · subst z
      rw [if_pos rfl] at e; exact (keepL_some e).2 _ _ rfl
    · rw [if_neg z] at e; cases e
  · match i, e with
    | 0, e =>
      cases e
      refine ⟨.ref a, rfl, .clst (vs := ns.map V.int) ?_ ?_⟩
      · rcases hS with (h | ⟨o, h⟩) | h
        · exact .inl (.inl ((if_pos rfl).trans (by rw [h]; rfl)))
        · exact .inl (.inr ⟨o, (if_pos rfl).trans (by rw [h]; rfl)⟩)
        · exact .inr h
      · exact reps_int _ ns
    | i + 1, e => cases i <;> cases e
  · match i, e with
    | 0, e => cases e
    | i + 1, e => cases i <;> cases e
  · cases e
  · match i, h1 with
    | 0, h1 => cases h1
    | i + 1, h1 => cases i <;> cases h1
  · rw [e]
    intro S' v H' _ _ r
    cases (show Rep K S' (.bl true) v from r)
    exact q H'
/-- the texts of the refusals that may come -/
def kindTs (l : List (String × List Nat)) : String → Option (List Nat) := fun c => (l.find? fun p => p.1 == c).map (·.2)
theorem kindTs_mem {l : List (String × List Nat)} {c : String} {t : List Nat} (h : kindTs l c = some t) : (c, t) ∈ l := by
  obtain ⟨p, h1, rfl⟩ := Option.map_eq_some_iff.mp h
  have h2 := List.mem_of_find?_eq_some h1
  have h3 := List.find?_some h1
  have : p.1 = c := by simpa using h3
  subst this
  exact h2
end QW

end
section
/-! more: what is walked by data, texts, built-ins, dicts of the module -/
namespace QW
open PySem PySem.Spec L2
section
variable {X : Cx} {W : WX} {L : Nat → Option Addr} {e a b c tg : Expr} {pos : Pos} {fe fa fb fc : CE1} {fl : CL} {ll : LK} {S S1 S2 : Hp} {ρ ρ1 ρ2 : EnvQ} {σ : St} {H H1 H2 : Hp} {Q : VK}
/-! walks by data -/
theorem PI.or {t1 t2 : TI} (h : PI X tg e t1) (g : PI X tg e t2) : PI X tg e (fun σ H R => t1 σ H R ∨ t2 σ H R) :=
  ⟨fun pins s σ H R I q => q.elim (h.run pins s σ H R I) (g.run pins s σ H R I)⟩
def D.walk : D → Option (List D)
  | .lst xs => some xs
  | .tup xs => some xs
  | .ctup xs => some xs
  | .str t => some (t.map fun c => .str [c])
  | _ => none
def iAny (fe : CE1) : CI := fun ρ => (fe ρ).bind fun a => opt a.1.own fun d => opt d.walk fun xs => .ok (xs, a.2)
theorem vi_any (he : VE X W L e fe) : VI X W L tg e (iAny fe) := by
  refine ⟨PI.weak (PI.or (vi_list he).pi (PI.or (vi_tup he).pi (vi_str he).pi)) fun σ H R h => ?_⟩
  obtain ⟨ll, S, ρ, rr, g⟩ := h
  cases e1 : fe ρ with
  | stuck =>
    have e2 : iAny fe ρ = .stuck := by unfold iAny; rw [e1]; rfl
    rw [e2] at g
    exact g.elim
  | exc c ρ' =>
    refine .inl ⟨ll, S, ρ, rr, ?_⟩
    have e2 : iAny fe ρ = iSeq fe ρ := by unfold iAny iSeq; rw [e1]; rfl
    rw [← e2]
    exact g
  | ok a =>
    obtain ⟨r, ρ1⟩ := a
    cases e3 : r.own with
    | none =>
      have e2 : iAny fe ρ = .stuck := by unfold iAny; rw [e1]; show opt r.own _ = _; rw [e3]; rfl
      rw [e2] at g
      exact g.elim
    | some d =>
      have e2 : iAny fe ρ = opt d.walk fun xs => .ok (xs, ρ1) := by unfold iAny; rw [e1]; show opt r.own _ = _; rw [e3]; rfl
      rw [e2] at g
      cases d with
      | lst xs =>
        refine .inl ⟨ll, S, ρ, rr, ?_⟩
        have e4 : iSeq fe ρ = .ok (xs, ρ1) := by unfold iSeq; rw [e1]; show (match r.own with | some (.lst xs) => _ | _ => _) = _; rw [e3]
        rw [e4]
        exact g
      | tup xs =>
        refine .inr (.inl ⟨ll, S, ρ, rr, ?_⟩)
        have e4 : iTupl fe ρ = .ok (xs, ρ1) := by unfold iTupl; rw [e1]; show (match r.own with | some (.tup xs) => _ | some (.ctup xs) => _ | _ => _) = _; rw [e3]
        rw [e4]
        exact g
      | ctup xs =>
        refine .inr (.inl ⟨ll, S, ρ, rr, ?_⟩)
        have e4 : iTupl fe ρ = .ok (xs, ρ1) := by unfold iTupl; rw [e1]; show (match r.own with | some (.tup xs) => _ | some (.ctup xs) => _ | _ => _) = _; rw [e3]
        rw [e4]
        exact g
      | str t =>
        refine .inr (.inr ⟨ll, S, ρ, rr, ?_⟩)
        have e4 : iStrg fe ρ = .ok (t.map fun c => .str [c], ρ1) := by unfold iStrg; rw [e1]; show (match r.own with | some (.str t) => _ | _ => _) = _; rw [e3]
        rw [e4]
        exact g
      | _ => exact g.elim
/-! texts -/
theorem sub_at (t w : List Nat) (i : Nat) : Builtin.Str.subAt (tS t) (tS w) i = decide ((t.drop i).take w.length = w) := by
  rw [PySem.StrLaws.subAt_eq, tS_len]
  show ((t.toArray.toList.drop i).take w.length == w.toArray.toList) = _
  simp only [List.toList_toArray]
  by_cases h : (t.drop i).take w.length = w
  · rw [decide_eq_true h, beq_iff_eq.mpr h]
  · rw [decide_eq_false h, beq_eq_false_iff_ne.mpr h]
/-- w stands in t from i on -/
def stands (t w : List Nat) (i : Nat) : Bool := decide ((t.drop i).take w.length = w) && decide (i + w.length ≤ t.length)
def startP : PM := fun t ds => match ds with
  | [.str w] => some (.sh (.bl (stands t w 0)))
  | [.str w, .int i] => if 0 ≤ i then some (.sh (.bl (stands t w i.toNat))) else none
  | _ => none
theorem startP_na : NoAlM startP := fun t ds i e => by
  unfold startP at e
  split at e
  · cases e
  · split at e <;> cases e
  · cases e
theorem startP_ok : MtR X "str.startswith" (rMS X.K startP) := callM_of fun t ds r S vs H Q hs hv e k => by
  unfold startP at e
  split at e
  · rename_i w
    cases e
    obtain ⟨v, rfl, h⟩ := hv.one
    rw [h.str]
    refine ⟨_, mt_startswith, tS t, tS w, rfl, rfl, ?_⟩
    have e1 : Txt.startswith (tS t) (tS w) = stands t w 0 := by
      unfold Txt.startswith stands
      rw [sub_at, tS_len, tS_len, Bool.and_comm]
    rw [e1]
    exact k _ (.bl _)
  · rename_i w i
    split at e
    · rename_i hi
      cases e
      obtain ⟨v, u, rfl, h, h2⟩ := hv.two
      rw [h.str, h2.int]
      refine ⟨_, mt_startswith3, tS t, tS w, i, rfl, rfl, ?_⟩
      have e0 : PySem.fromIndex (tS t).length i = i.toNat := by
        unfold PySem.fromIndex
        rw [if_neg (by omega)]
        omega
      have e1 : Txt.startswith3 (tS t) (tS w) i = stands t w i.toNat := by
        unfold Txt.startswith3 stands
        rw [e0, sub_at, tS_len, tS_len, Bool.and_comm]
      rw [e1]
      exact k _ (.bl _)
    · cases e
  · cases e
def endP : PM := fun t ds => match ds with
  | [.str w] => some (.sh (.bl (decide (w.length ≤ t.length) && stands t w (t.length - w.length))))
  | _ => none
theorem endP_na : NoAlM endP := fun t ds i e => by
  unfold endP at e
  split at e <;> cases e
theorem endP_ok : MtR X "str.endswith" (rMS X.K endP) := callM_of fun t ds r S vs H Q hs hv e k => by
  unfold endP at e
  split at e
  · rename_i w
    cases e
    obtain ⟨v, rfl, h⟩ := hv.one
    rw [h.str]
    refine ⟨_, mt_endswith, tS t, tS w, rfl, rfl, ?_⟩
    have e1 : Txt.endswith (tS t) (tS w) = (decide (w.length ≤ t.length) && stands t w (t.length - w.length)) := by
      unfold Txt.endswith stands
      rw [sub_at, tS_len, tS_len, Nat.zero_add]
      by_cases h1 : w.length ≤ t.length
      · rw [decide_eq_true h1, decide_eq_true (show t.length - w.length + w.length ≤ t.length by omega)]
        simp
      · rw [decide_eq_false h1]
        simp
    rw [e1]
    exact k _ (.bl _)
  · cases e

/-! built-ins -/
theorem max_eq {ns : List Int} {m m' : Int} (e : ns.max? = some m) (h1 : m' ∈ ns) (h2 : ∀ y ∈ ns, y ≤ m') : m = m' := by
  obtain ⟨a, b⟩ := List.max?_eq_some_iff.mp e
  exact Int.le_antisymm (h2 m a) (b m' h1)
theorem min_eq {ns : List Int} {m m' : Int} (e : ns.min? = some m) (h1 : m' ∈ ns) (h2 : ∀ y ∈ ns, m' ≤ y) : m = m' := by
  obtain ⟨a, b⟩ := List.min?_eq_some_iff.mp e
  exact Int.le_antisymm (b m' h1) (h2 m a)
def max1P : PN := pN fun ds => match ds with
  | [.lst xs] => (intsD xs).bind fun ns => ns.max?.map .int
  | _ => none
theorem ne_len {ns : List Int} {m : Int} (e : ns.max? = some m ∨ ns.min? = some m) : 0 < ns.length := by
  cases ns with
  | nil => rcases e with e | e <;> simp at e
  | cons => simp
theorem max1P_ok (hc : X.calm = true) : CallR X (.builtin "max") (rPN X.K max1P) := pN_ok fun ds d S vs H Q hs hv e k => by
  split at e
  · rename_i xs
    obtain ⟨ns, e1, e2⟩ := Option.bind_eq_some_iff.mp e
    obtain ⟨m, e3, rfl⟩ := Option.map_eq_some_iff.mp e2
    obtain ⟨v, rfl, h⟩ := hv.one
    obtain ⟨a, vs, rfl, h1, h2⟩ := h.lst hs
    rw [intsD_map e1] at h2
    rw [h2.ints] at h1
    refine ⟨_, cr_max hc, a, ns, rfl, .inl (.inl h1), ne_len (.inl e3), fun m' g1 g2 => ?_⟩
    rw [← max_eq e3 g1 g2]
    exact k _ (.int _)
  · cases e
/-- min and sum of a tuple of numbers -/
theorem cr_minT (hc : X.calm = true) (hu : X.A.units + 64 < cLine) : CallR X (.builtin "min") (fun vs H Q => ∃ (a : Addr) (ns : List Int), vs = [V.ref a] ∧ SqT X.K H a (ns.map V.int) ∧ 0 < ns.length ∧ ∀ m, m ∈ ns → (∀ y, y ∈ ns → m ≤ y) → Q (.int m) H) := by
  intro pins s σ H vs us Q I r h
  obtain ⟨a, ns, rfl, hs, hne, q⟩ := h
  obtain ⟨its, rv, ht, _⟩ := I.tuple hs
  rw [Vals.ref1 r]
  have hi := rv.ints
  cases ns with
  | nil => exact absurd hne (by simp)
  | cons n ns =>
    have hr : ReadsAll s.heap its.toArray.toList (PyData.int n :: ns.map .int) [] := by
      have := hi.reads s.heap
      simpa using this
    refine PySem.W.min_tuple_data (I.ok.hd hc) ht hr ⟨fun x hx y hy => ?_, fun x hx => ?_⟩ ?_ fun i v h' tk bs _ rd hk => ?_
    · obtain ⟨p, _, rfl⟩ := List.mem_map.mp (show x ∈ (n :: ns).map PyData.int from by simpa using hx)
      obtain ⟨q, _, rfl⟩ := List.mem_map.mp (show y ∈ (n :: ns).map PyData.int from by simpa using hy)
      rfl
    · obtain ⟨p, _, rfl⟩ := List.mem_map.mp (show x ∈ (n :: ns).map PyData.int from by simpa using hx)
      exact fun z => nomatch z
    · have e0 : PyData.depthAll (PyData.int n :: ns.map .int) = 0 := PyProof.Rows.depthAll_ints (n :: ns)
      rw [e0]
      omega
    · rw [PySem.W.minD_ints] at rd
      obtain ⟨t, rfl, _⟩ := PyProof.Rows.reads_int_inv rd
      have hm : ∀ (ns : List Int) (n : Int), (ns.foldl min n = n ∨ ns.foldl min n ∈ ns) ∧ ns.foldl min n ≤ n ∧ ∀ y ∈ ns, ns.foldl min n ≤ y := by
        intro ns
        induction ns with
        | nil => exact fun n => ⟨.inl rfl, Int.le_refl _, fun _ h => absurd h List.not_mem_nil⟩
        | cons k r ih =>
          intro n
          rw [List.foldl_cons]
          obtain ⟨h1, h2, h3⟩ := ih (min n k)
          refine ⟨?_, by omega, fun y hy => ?_⟩
          · rcases h1 with h1 | h1
            · by_cases z : n ≤ k
              · exact .inl (by omega)
              · exact .inr (List.mem_cons.mpr (.inl (by omega)))
            · exact .inr (List.mem_cons_of_mem _ h1)
          · rcases List.mem_cons.mp hy with rfl | hy
            · omega
            · exact h3 y hy
      obtain ⟨g1, g2, g3⟩ := hm ns n
      refine ⟨.int _, H, I.kept hk, ⟨_, rfl⟩, q _ ?_ fun y hy => ?_⟩
      · rcases g1 with g1 | g1
        · rw [g1]; exact List.mem_cons_self
        · exact List.mem_cons_of_mem _ g1
      · rcases List.mem_cons.mp hy with rfl | hy
        · exact g2
        · exact g3 y hy
def min1P : PN := pN fun ds => match ds with
  | [.lst xs] => (intsD xs).bind fun ns => ns.min?.map .int
  | [.tup xs] => (intsD xs).bind fun ns => ns.min?.map .int
  | _ => none
theorem min1P_ok (hc : X.calm = true) (hu : X.A.units + 64 < cLine) : CallR X (.builtin "min") (rPN X.K min1P) := pN_ok fun ds d S vs H Q hs hv e k => by
  split at e
  · rename_i xs
    obtain ⟨ns, e1, e2⟩ := Option.bind_eq_some_iff.mp e
    obtain ⟨m, e3, rfl⟩ := Option.map_eq_some_iff.mp e2
    obtain ⟨v, rfl, h⟩ := hv.one
    obtain ⟨a, vs, rfl, h1, h2⟩ := h.lst hs
    rw [intsD_map e1] at h2
    rw [h2.ints] at h1
    refine ⟨_, cr_min hc, a, ns, rfl, .inl (.inl h1), ne_len (.inr e3), fun m' g1 g2 => ?_⟩
    rw [← min_eq e3 g1 g2]
    exact k _ (.int _)
  · rename_i xs
    obtain ⟨ns, e1, e2⟩ := Option.bind_eq_some_iff.mp e
    obtain ⟨m, e3, rfl⟩ := Option.map_eq_some_iff.mp e2
    obtain ⟨v, rfl, h⟩ := hv.one
    obtain ⟨a, vs, rfl, h1, h2⟩ := h.tup hs
    rw [intsD_map e1] at h2
    rw [h2.ints] at h1
    refine ⟨_, cr_minT hc hu, a, ns, rfl, .inl (.inl h1), ne_len (.inr e3), fun m' g1 g2 => ?_⟩
    rw [← min_eq e3 g1 g2]
    exact k _ (.int _)
  · cases e
theorem cr_sumT (hc : X.calm = true) : CallR X (.builtin "sum") (fun vs H Q => ∃ (a : Addr) (ns : List Int), vs = [V.ref a] ∧ SqT X.K H a (ns.map V.int) ∧ Q (.int ns.sum) H) := by
  intro pins s σ H vs us Q I r h
  obtain ⟨a, ns, rfl, hs, q⟩ := h
  obtain ⟨its, rv, ht, _⟩ := I.tuple hs
  rw [Vals.ref1 r]
  have hi := rv.ints
  obtain ⟨xs, e⟩ := hi.allInts.items
  have hn : numsOf (PySem.intItems xs).toList = ns := e ▸ hi.numsOf
  rw [nums_intItems] at hn
  rw [e] at ht
  refine PySem.W.ktm_sumG (I.ok.hd hc) ht fun h' tk t' hk => ?_
  refine ⟨.int ns.sum, H, I.kept hk, ⟨t', ?_⟩, q⟩
  rw [preSum_eq, List.take_of_length_le (by simp), hn]
def sumP : PN := pN fun ds => match ds with
  | [.lst xs] => (intsD xs).map fun ns => .int ns.sum
  | [.tup xs] => (intsD xs).map fun ns => .int ns.sum
  | _ => none
theorem sumP_ok (hc : X.calm = true) : CallR X (.builtin "sum") (rPN X.K sumP) := pN_ok fun ds d S vs H Q hs hv e k => by
  split at e
  · rename_i xs
    obtain ⟨ns, e1, rfl⟩ := Option.map_eq_some_iff.mp e
    obtain ⟨v, rfl, h⟩ := hv.one
    obtain ⟨a, vs, rfl, h1, h2⟩ := h.lst hs
    rw [intsD_map e1] at h2
    rw [h2.ints] at h1
    exact ⟨_, cr_sum hc, a, ns, rfl, .inl (.inl h1), k _ (.int _)⟩
  · rename_i xs
    obtain ⟨ns, e1, rfl⟩ := Option.map_eq_some_iff.mp e
    obtain ⟨v, rfl, h⟩ := hv.one
    obtain ⟨a, vs, rfl, h1, h2⟩ := h.tup hs
    rw [intsD_map e1] at h2
    rw [h2.ints] at h1
    exact ⟨_, cr_sumT hc, a, ns, rfl, .inl (.inl h1), k _ (.int _)⟩
  · cases e
def absP : PN := pN fun ds => match ds with
  | [.int i] => some (.int (if i < 0 then -i else i))
  | _ => none
theorem absP_ok : CallR X (.builtin "abs") (rPN X.K absP) := pN_ok fun ds d S vs H Q hs hv e k => by
  split at e
  · cases e
    obtain ⟨v, rfl, h⟩ := hv.one
    rw [h.int]
    exact ⟨_, call_abs, _, rfl, k _ (.int _)⟩
  · cases e
def shlP : P2 := pV fun x y => match x, y with
  | .int i, .int j => if i = 1 ∧ 0 ≤ j ∧ j ≤ 1000 then some (.int (2 ^ j.toNat)) else none
  | _, _ => none
theorem shlP_ok : OpR X (binaryOp .LShift) (rP2 X.K shlP) := pV_ok fun dx dy r S x y H Q hs hx hy e k => by
  split at e
  · split at e
    · rename_i i j hl
      cases e
      obtain ⟨rfl, h0, h1⟩ := hl
      have ej : ((j.toNat : Nat) : Int) = j := by omega
      exact ⟨_, op_oneShl, j.toNat, hx.int, by rw [ej]; exact hy.int, by omega, k _ (.int _)⟩
    · cases e
  · cases e
def numT (i : Int) : List Nat := (toString i).toList.map Char.toNat
def strP : PN := pN fun ds => match ds with
  | [.int i] => if i.natAbs.log2 < 1920 then some (.str (numT i)) else none
  | _ => none
theorem strP_ok : CallR X (.type "str") (rPN X.K strP) := pN_ok fun ds d S vs H Q hs hv e k => by
  split at e
  · split at e
    · rename_i i hl
      cases e
      obtain ⟨v, rfl, h⟩ := hv.one
      rw [h.int]
      refine ⟨_, call_str_int, _, rfl, hl, ?_⟩
      have e1 : (V.str (Str.ofString (toString i)) : V) = V.str (tS (numT i)) := by
        rw [Str.ofString_eq_toList]
        rfl
      exact e1 ▸ k _ (.str _)
    · cases e
  · cases e
/-! one argument: a value by a value -/
theorem rdE_mono {Q' : VK} (g : rdE X W L fa σ H Q) (k : ∀ v H', Q v H' → Q' v H') : rdE X W L fa σ H Q' := by
  obtain ⟨ll, S, ρ, rr, g⟩ := g
  refine ⟨ll, S, ρ, rr, ?_⟩
  cases e1 : fa ρ with
  | stuck => rw [e1] at g; exact g
  | exc c ρ' => rw [e1] at g; exact g
  | ok q =>
    rw [e1] at g
    exact fun S1 v H1 r1 t1 q1 => k v H1 (g S1 v H1 r1 t1 q1)
theorem un_go {p : P1} (na : NoAl1 p) (h : rdE X W L (eUn p fa) σ H Q) : rdE X W L fa σ H fun v H1 => rP1 X.K p v H1 Q := by
  refine rdE_bind h fun ll S ρ S1 v H1 r ρ1 r1 t1 q1 g => ?_
  obtain ⟨dx, ex, g⟩ := opt_some (Pr := fun r => GoE X W L ll S ρ σ H r Q) g (fun z => z)
  obtain ⟨r, er, g⟩ := opt_some (Pr := fun r => GoE X W L ll S ρ σ H r Q) g (fun z => z)
  exact ⟨S1, dx, r, r1.sub, q1.opd r1 ex, er, GoE.prim r1 t1 g fun i z => na dx i (z ▸ er)⟩
/-! dicts of the module, keys texts -/
abbrev GTab := List (List Nat × D)
def valG (T : GTab) (t : List Nat) : Option D := (T.find? fun p => decide (p.1 = t)).map (·.2)
structure GDict (K : PySem.W.Frag) (w : World) (mg : Str → Option Value) (x : Str) (T : GTab) : Prop where
  ex : ∃ a es n, mg x = some (.ref a) ∧ KDict K w a es n ∧ (∀ t, valG T t = none → PySem.W.nsIn K a (tS t) = some none) ∧ ∀ t d, valG T t = some d → ∃ u v, PySem.W.nsIn K a (tS t) = some (some u) ∧ RelV v u ∧ ∀ S, Rep K S d v
def inGP (T : GTab) : P1 := fun x => match x with
  | .str t => some (.sh (.bl (valG T t).isSome))
  | _ => none
def nmGP (T : GTab) : P1 := fun x => match x with
  | .str t => some (.sh (.bl (!(valG T t).isSome)))
  | _ => none
def getGP (T : GTab) : P1 := fun x => match x with
  | .str t => (valG T t).map .sh
  | _ => none
theorem inGP_na (T : GTab) : NoAl1 (inGP T) := fun dx i e => by
  unfold inGP at e
  split at e <;> cases e
theorem nmGP_na (T : GTab) : NoAl1 (nmGP T) := fun dx i e => by
  unfold nmGP at e
  split at e <;> cases e
theorem getGP_na (T : GTab) : NoAl1 (getGP T) := fun dx i e => by
  unfold getGP at e
  split at e
  · obtain ⟨_, _, z⟩ := Option.map_eq_some_iff.mp e
    cases z
  · cases e
theorem GDict.some {K : PySem.W.Frag} {w : World} {mg : Str → Option Value} {x : Str} {T : GTab} (G : GDict K w mg x T) : ∃ a es n, mg x = Option.some (.ref a) ∧ KDict K w a es n ∧ ∀ t, ∃ r, PySem.W.nsIn K a (tS t) = Option.some r ∧ r.isSome = (valG T t).isSome := by
  obtain ⟨a, es, n, h1, h2, h3, h4⟩ := G.ex
  refine ⟨a, es, n, h1, h2, fun t => ?_⟩
  cases e : valG T t with
  | none => exact ⟨_, h3 t e, rfl⟩
  | some d =>
    obtain ⟨u, v, e2, _, _⟩ := h4 t d e
    exact ⟨_, e2, rfl⟩
theorem pe_inG {x : Str} {T : GTab} {px : Pos} (G : GDict X.K X.w X.mg x T) (hg : Gl X x) (ha : VE X W L a fa) (hd : (x == ("__debug__" : Str)) = false) (hm : behindInMarks .In (.Name x px) = false) : PE X (.Compare a [.In] [.Name x px] pos) (rdE X W L (eUn (inGP T) fa)) := by
  obtain ⟨b, es, n, h1, h2, h3⟩ := G.some
  refine PE.weak (pe_cmpR (op_in_kd h2) ha.pe (pe_glob (v := .ref b) hg h1 rfl hd) hm) fun σ H Q h => ?_
  refine rdE_mono (un_go (inGP_na T) h) fun v H1 ⟨S2, dx, r', hs, hx, e, k⟩ => ?_
  unfold inGP at e
  split at e
  · rename_i t
    cases e
    obtain ⟨r2, e2, e3⟩ := h3 t
    exact ⟨tS t, r2, hx.str, rfl, e2, by rw [e3]; exact k _ (.bl _)⟩
  · cases e
theorem pe_nmG {x : Str} {T : GTab} {px : Pos} (G : GDict X.K X.w X.mg x T) (hg : Gl X x) (ha : VE X W L a fa) (hd : (x == ("__debug__" : Str)) = false) (hm : behindInMarks .NotIn (.Name x px) = false) : PE X (.Compare a [.NotIn] [.Name x px] pos) (rdE X W L (eUn (nmGP T) fa)) := by
  obtain ⟨b, es, n, h1, h2, h3⟩ := G.some
  refine PE.weak (pe_cmpR (op_notIn_kd h2) ha.pe (pe_glob (v := .ref b) hg h1 rfl hd) hm) fun σ H Q h => ?_
  refine rdE_mono (un_go (nmGP_na T) h) fun v H1 ⟨S2, dx, r', hs, hx, e, k⟩ => ?_
  unfold nmGP at e
  split at e
  · rename_i t
    cases e
    obtain ⟨r2, e2, e3⟩ := h3 t
    exact ⟨tS t, r2, hx.str, rfl, e2, by rw [e3]; exact k _ (.bl _)⟩
  · cases e
section
variable {x : Str} {T : GTab} {px : Pos}
theorem v_inG (G : GDict X.K X.w X.mg x T) (hg : Gl X x) (ha : VE X W L a fa) (hd : (x == ("__debug__" : Str)) = false := by decide) (hm : behindInMarks .In (.Name x px) = false := by first | exact nomark _ | rfl) : VE X W L (.Compare a [.In] [.Name x px] pos) (eUn (inGP T) fa) := ⟨pe_inG G hg ha hd hm⟩
theorem v_nmG (G : GDict X.K X.w X.mg x T) (hg : Gl X x) (ha : VE X W L a fa) (hd : (x == ("__debug__" : Str)) = false := by decide) (hm : behindInMarks .NotIn (.Name x px) = false := by first | exact nomark _ | rfl) : VE X W L (.Compare a [.NotIn] [.Name x px] pos) (eUn (nmGP T) fa) := ⟨pe_nmG G hg ha hd hm⟩
end

/-! subscripts of a dict of the module -/
theorem ix_kd {d : Addr} {es : Array DictEntry} {n : Nat} (D : KDict X.K X.w d es n) : IxR X (fun x y H Q => ∃ (z : Str) (u0 : Value) (v0 : V), x = .ref d ∧ y = .str z ∧ PySem.W.nsIn X.K d z = some (some u0) ∧ RelV v0 u0 ∧ Q v0 H) := by
  intro value slice pins s σ H x y v u Q I rx ry h hs
  obtain ⟨z, u0, v0, rfl, rfl, e, rv, q⟩ := h
  have rx' := rx
  cases rx
  exact PyProof.Rows.tail_any (kd_type D I) PySem.F.slot_dict_getitem.lookup (op_item_kd D pins s σ H (.ref d) (.str z) _ u Q I rx' ry ⟨z, u0, v0, rfl, rfl, e, rv, q⟩) hs
theorem v_getG {x : Str} {T : GTab} {px : Pos} (G : GDict X.K X.w X.mg x T) (hg : Gl X x) (ha : VE X W L a fa) (hd : (x == ("__debug__" : Str)) = false := by decide) (hs : PlainIx a := by exact fun _ _ => rfl) : VE X W L (.Subscript (.Name x px) a pos) (eUn (getGP T) fa) := by
  obtain ⟨b, es, n, h1, h2, h3, h4⟩ := G.ex
  refine ⟨PE.weak (pe_ix (ix_kd h2) (pe_glob (v := .ref b) hg h1 rfl hd) ha.pe hs) fun σ H Q h => ?_⟩
  refine rdE_mono (un_go (getGP_na T) h) fun v H1 ⟨S2, dx, r', hs, hx, e, k⟩ => ?_
  unfold getGP at e
  split at e
  · rename_i t
    obtain ⟨d, e1, rfl⟩ := Option.map_eq_some_iff.mp e
    obtain ⟨u, w, e2, rw', rp⟩ := h4 t d e1
    exact ⟨tS t, u, w, rfl, hx.str, e2, rw', k _ (rp _)⟩
  · cases e
/-! a, b = x, y -/
def par2 (i j : Nat) (ds : List D) (ρ : EnvQ) : RS := match ds with
  | [d1, d2] => (setSl i (.sh d1) ρ).bind fun x => match x with
    | .nx ρ' => setSl j (.sh d2) ρ'
    | .rt _ _ => .stuck
  | _ => .stuck
def sPar (i j : Nat) (fl : CL) : CS := fun ρ => (fl ρ).bind fun a => opt (owns a.1) fun ds => par2 i j ds a.2
theorem vs_par {i j : Nat} {x y : Str} {a b : Expr} {px py pt : Pos} {kt k2 pt2} (ha : VA X W L [a, b] fl) (hN : X.N.Nodup) (hc : X.calm = true := by rfl) (hi : X.N[i]? = some x := by rfl) (hj : X.N[j]? = some y := by rfl) (hij : i ≠ j := by decide)
    (hx : X.env.scope.names.lookup x = some .local := by rfl) (hy : X.env.scope.names.lookup y = some .local := by rfl)
    (hw : swappedStores [.Tuple [.Name x px, .Name y py] kt pt] (.Tuple [a, b] k2 pt2) X.env = pure (some [x, y]) := by rfl)
    (hs : swapsWithSole [.Tuple [.Name x px, .Name y py] kt pt] (.Tuple [a, b] k2 pt2) pos.line X.env = pure false := by rfl) :
    VS X W L (.Assign [.Tuple [.Name x px, .Name y py] kt pt] (.Tuple [a, b] k2 pt2) pos) (sPar i j fl) := by
  refine ⟨PS.weak (ps_par hc hN hi hj hij hx hy ha.pa hw hs) fun σ H D h => ?_⟩
  obtain ⟨ll, S, ρ, rr, g⟩ := h
  refine ⟨ll, S, ρ, rr, ?_⟩
  unfold sPar at g
  cases e1 : fl ρ with
  | stuck => rw [e1] at g; exact g
  | exc c ρ' => rw [e1] at g; exact g
  | ok q =>
    obtain ⟨rs, ρ1⟩ := q
    rw [e1] at g
    intro S1 vs H1 r1 t1 q1
    have g : GoS X W L ll S ρ σ H (opt (owns rs) fun ds => par2 i j ds ρ1) D := g
    cases e2 : owns rs with
    | none => rw [e2] at g; exact g.elim
    | some ds =>
      rw [e2] at g
      obtain ⟨S2, r2, t2, _, hd⟩ := freezes r1 t1 q1 e2
      have g : GoS X W L ll S ρ σ H (par2 i j ds ρ1) D := g
      rcases ds with _ | ⟨d1, _ | ⟨d2, _ | ⟨d3, ds⟩⟩⟩
      · exact g.elim
      · exact g.elim
      · have g : GoS X W L ll S ρ σ H ((setSl i (.sh d1) ρ1).bind fun x => match x with
          | .nx ρ' => setSl j (.sh d2) ρ'
          | .rt _ _ => .stuck) D := g
        obtain ⟨v, w, rfl, rv, rw'⟩ := hd.two'
        cases e3 : ρ1[i]? with
        | none =>
          have : setSl i (.sh d1) ρ1 = .stuck := by unfold setSl; rw [e3]
          rw [this] at g
          exact g.elim
        | some s0 =>
          by_cases f0 : s0.free = true
          · have e4 : setSl i (.sh d1) ρ1 = .ok (.nx (ρ1.set i (.sh d1))) := by unfold setSl; rw [e3]; exact if_pos f0
            rw [e4] at g
            have g : GoS X W L ll S ρ σ H (setSl j (.sh d2) (ρ1.set i (.sh d1))) D := g
            obtain ⟨⟨s1, e5, f1⟩, g⟩ := setSl_go g
            have r3 := r2.store (i := i) (s := .sh d1) (v := v) ⟨s0, e3, f0⟩ rfl (fun d z => by cases z; exact rv) (fun _ _ z => nomatch z)
            have t3 := t2.store (i := i) (s := .sh d1) (v := v) r2.len (fun _ _ z => nomatch z)
            have r4 := r3.store (i := j) (s := .sh d2) (v := w) ⟨s1, e5, f1⟩ rfl (fun d z => by cases z; exact rw') (fun _ _ z => nomatch z)
            have t4 := t3.store (i := j) (s := .sh d2) (v := w) r3.len (fun _ _ z => nomatch z)
            exact ⟨v, w, rfl, g _ _ _ r4 t4⟩
          · have : setSl i (.sh d1) ρ1 = .stuck := by unfold setSl; rw [e3]; exact if_neg f0
            rw [this] at g
            exact g.elim
      · exact g.elim
/-! a try whose body raises nothing -/
def sTryR (c1 c2 : String) (f : CS) : CS := fun ρ => match f ρ with
  | .exc _ _ => .stuck
  | r => r
theorem vs_tryR {c1 c2 : String} {body : List Stmt} {h0 : ExceptHandler} {hds : List ExceptHandler} {f : CS} (hb : VSs X.nox W0 L body f) : VS X W L (.Try body (h0 :: hds) [] [] pos) (sTryR c1 c2 f) := by
  refine ⟨PS.weak (ps_try_thru0 hb.pss) fun σ H D h => ?_⟩
  obtain ⟨ll, S, ρ, rr, g⟩ := h
  refine ⟨ll, S, ρ, rr, ?_⟩
  unfold sTryR at g
  cases e1 : f ρ with
  | stuck => rw [e1] at g; exact g
  | exc c ρ' => rw [e1] at g; exact g.elim
  | ok a => rw [e1] at g; cases a <;> exact g
/-- as many turns as one likes -/
def fuelW : EnvQ → Nat := fun _ => 1000000000
abbrev eNewDK : CE1 := fun ρ => .ok (.ow (.dk []), ρ)
abbrev eNewDT : CE1 := fun ρ => .ok (.ow (.dt []), ρ)
end
end QW

end
section
/-! more combinators -/
namespace QW
open PySem PySem.Spec L2
section
variable {X : Cx} {W : WX} {L : Nat → Option Addr} {e a b c tg : Expr} {pos : Pos} {fe fa fb fc : CE1} {fl : CL} {ll : LK} {S S1 S2 : Hp} {ρ ρ1 ρ2 : EnvQ} {σ : St} {H H1 H2 : Hp} {Q : VK}
abbrev eCompX := eComp
/-- range(i, j, -1) -/
def rngDn (i j : Int) : List D := (List.range (i - j).toNat).map fun (k : Nat) => .int (i - k)
def iRng3' (fl : CL) : CI := fun ρ => (fl ρ).bind fun a => match gets a.2 a.1 with
  | some [.int i, .int j, .int c] => if c = -1 ∧ -1000000 ≤ i ∧ i ≤ 1000000 ∧ -1000000 ≤ j ∧ j ≤ 1000000 then .ok (rngDn i j, a.2) else .stuck
  | _ => .stuck
theorem rngDn_walk {i j : Int} : WalkOk X.K ll S (rngDn i j) (Itc i (-1) (i - j).toNat) := fun S' H' ex sub _ => by
  refine ⟨fun k d ed => ?_, by
    show (i - j).toNat ≤ (rngDn i j).length
    unfold rngDn
    rw [List.length_map, List.length_range]
    exact Nat.le_refl _⟩
  unfold rngDn at ed
  rw [List.getElem?_map] at ed
  obtain ⟨k', e1, e2⟩ := Option.map_eq_some_iff.mp ed
  have hk := (List.getElem?_eq_some_iff.mp e1).1
  rw [List.getElem?_range (by simpa using hk)] at e1
  cases e1
  subst e2
  refine ⟨by simpa [Itc] using hk, fun x H'' y => .inl ⟨y.1, ?_⟩⟩
  rw [y.2, show i + (k : Int) * -1 = i - k by omega]
  exact .int _
theorem Opds.ints3 {K : PySem.W.Frag} {i j k : Int} {vs : List V} (h : Opds K S H [.int i, .int j, .int k] vs) : vs = [.int i, .int j, .int k] := by
  cases h with
  | cons h q =>
    rw [h.int, q.ints2]
theorem rgc_of {i j : Int} (h : -1000000 ≤ i ∧ i ≤ 1000000 ∧ -1000000 ≤ j ∧ j ≤ 1000000) : RgC i j (-1) (i - j).toNat := RgC.neg (by omega) (by omega) (by omega) (by omega)
theorem vi_range3 {a b c : Expr} {fl : CL} {p : Pos} (hg : Gl X "range") (hm : X.mg "range" = none) (ha : VA X W L [a, b, c] fl) (hs : starEach [a, b, c] X.env = (false, eval a X.env) :: starEach [b, c] X.env := by rfl) (hpl : (backTo pos (starEach [b, c] X.env)).any (·.1) = false := by rfl) : VI X W L tg (.Call (.Name "range" p) [a, b, c] [] pos) (iRng3' fl) := by
  refine ⟨PI.weak (pi_range3 hg hm ha.pa hs hpl) fun σ H Q h => ?_⟩
  refine rdIL_bind h fun ll S ρ S1 vs H1 rs ρ1 r1 t1 q1 g => ?_
  dsimp only at g
  split at g
  · rename_i i j c eo
    by_cases hj : c = -1 ∧ -1000000 ≤ i ∧ i ≤ 1000000 ∧ -1000000 ≤ j ∧ j ≤ 1000000
    · rw [if_pos hj] at g
      obtain ⟨rfl, hj⟩ := hj
      exact ⟨i, j, -1, (i - j).toNat, (q1.opds r1 eo).ints3, rgc_of hj, g S1 _ H1 r1 t1 rngDn_walk⟩
    · rw [if_neg hj] at g; exact g.elim
  · exact g.elim
/-- enumerate of a list: pairs -/
def enum (xs : List D) : List D := xs.zipIdx.map fun p => .tup [.int p.2, p.1]
def iEnu (fe : CE1) : CI := fun ρ => (fe ρ).bind fun a => match a.1.own with
  | some (.lst xs) => .ok (enum xs, a.2)
  | _ => .stuck
def revP : P1 := fun x => match x with
  | .lst xs => some (.ow (.lst xs.reverse))
  | .str t => if t.length ≤ 1000000 then some (.sh (.str t.reverse)) else none
  | _ => none
def sortT (ts : List (List Nat)) : List (List Nat) := ts.mergeSort fun a b => decide (a ≤ b)
def sortP : PN := fun ds => match ds with
  | [.lst xs] => (strsD xs).map fun ts => .ow (.lst ((sortT ts).map D.str))
  | _ => none
def sortSetP : P1 := fun x => match x with
  | .lst xs => (strsD xs).map fun ts => .ow (.lst ((sortT ts.eraseDups).map D.str))
  | _ => none
def removeM : PMut := fun _ _ => none
def eMtS0 (p : PM) (fo : CE1) : CE1 := fun ρ => (fo ρ).bind fun a => match a.1 with
  | .sh (.str t) => opt (p t []) fun r => .ok (r.norm, a.2)
  | _ => .stuck
def upC (c : Nat) : Nat := if 97 ≤ c ∧ c ≤ 122 then c - 32 else c
def loC (c : Nat) : Nat := if 65 ≤ c ∧ c ≤ 90 then c + 32 else c
def upperP : PM := fun t ds => if ds.isEmpty = true ∧ t.all (· < 128) = true ∧ t.length ≤ 1000000 then some (.sh (.str (t.map upC))) else none
def lowerP : PM := fun t ds => if ds.isEmpty = true ∧ t.all (· < 128) = true ∧ t.length ≤ 1000000 then some (.sh (.str (t.map loC))) else none
def splitL (c : Nat) : List Nat → List (List Nat)
  | [] => [[]]
  | x :: r => if x = c then [] :: splitL c r else match splitL c r with
    | [] => [[x]]
    | y :: z => (x :: y) :: z
def splitP : PM := fun t ds => match ds with
  | [.str [c]] => if t.length ≤ 1000000 then some (.ow (.lst ((splitL c t).map D.str))) else none
  | _ => none
def sindexP : PM := fun t ds => match ds with
  | [.str [c]] => (t.findIdx? (· == c)).map fun i => .sh (.int i)
  | _ => none
abbrev PML := D → List D → Option Res
def eMtL (p : PML) (fo : CE1) (fl : CL) : CE1 := fun ρ => (fo ρ).bind fun a => (fl a.2).bind fun b => opt (a.1.get b.2) fun d => opt (gets b.2 b.1) fun ds => opt (p d ds) fun r => .ok (r.norm, b.2)
def lindexP : PML := fun d ds => none
/-- a dict -/
def isDd : D → Bool
  | .dk _ => true
  | .dt _ => true
  | _ => false
def eDGet (fd fk : CE1) : CE1 := fun ρ => (fd ρ).bind fun a => opt (a.1.get a.2) fun d0 => if isDd d0 = true then (fk a.2).bind fun b => opt (a.1.get b.2) fun d => opt (b.1.get b.2) fun k => opt (lookD d k) fun o => .ok (.sh (o.getD .non), b.2) else .stuck
def eDGet2 (fd fk fx : CE1) : CE1 := fun ρ => (fd ρ).bind fun a => opt (a.1.get a.2) fun d0 => if isDd d0 = true then (fk a.2).bind fun b => (fx b.2).bind fun x => opt (a.1.get x.2) fun d => opt (b.1.get x.2) fun k => opt (x.1.own) fun z => opt (lookD d k) fun o => .ok (.sh (o.getD z), x.2) else .stuck
def eOrS (fa fb : CE1) : CE1 := fun ρ => (fa ρ).bind fun a => match a.1 with
  | .sh (.str []) => fb a.2
  | .sh (.str (c :: t)) => .ok (.sh (.str (c :: t)), a.2)
  | _ => .stuck
/-- a written dict's entries -/
inductive GEnt (K : PySem.W.Frag) : List DictEntry → GTab → Prop where
  | nil : GEnt K [] []
  | cons {h : Int} {k : List Nat} {tk : Tok} {u : Value} {v : V} {d : D} {es : List DictEntry} {T : GTab} : RelV v u → (∀ S, Rep K S d v) → GEnt K es T → GEnt K (⟨h, .str (tS k) tk, u⟩ :: es) ((k, d) :: T)
theorem gent_find {K : PySem.W.Frag} {es : List DictEntry} {T : GTab} (g : GEnt K es T) (t : List Nat) : (valG T t = none → es.find? (·.key.isStr (tS t)) = none) ∧ ∀ d, valG T t = some d → ∃ e v, es.find? (·.key.isStr (tS t)) = some e ∧ RelV v e.val ∧ ∀ S, Rep K S d v := by
  induction g with
  | nil => exact ⟨fun _ => rfl, fun d z => by cases z⟩
  | @cons h k tk u v d es T rv rp g ih =>
    have e0 : (Value.str (tS k) tk).isStr (tS t) = decide (k = t) := by
      show ((tS k : Str) == tS t) = _
      by_cases z : k = t
      · subst z; simp
      · rw [decide_eq_false z, beq_eq_false_iff_ne]
        exact fun y => z (tS_inj y)
    by_cases z : k = t
    · have e1 : valG ((k, d) :: T) t = some d := by unfold valG; rw [List.find?_cons_of_pos (by simpa using z)]; rfl
      rw [e1]
      refine ⟨(fun y => nomatch y), fun d' y => ?_⟩
      cases y
      exact ⟨_, v, by rw [List.find?_cons_of_pos (by rw [e0]; simpa using z)], rv, rp⟩
    · have e1 : valG ((k, d) :: T) t = valG T t := by unfold valG; rw [List.find?_cons_of_neg (by simpa using z)]
      rw [e1, List.find?_cons_of_neg (by rw [e0]; simpa using z)]
      exact ih
theorem gent_ref {K : PySem.W.Frag} {es : List DictEntry} {T : GTab} (g : GEnt K es T) : es.any (·.refKey) = false := by
  induction g with
  | nil => rfl
  | cons _ _ _ ih => rw [List.any_cons, ih]; rfl
theorem gdict_mk {K : PySem.W.Frag} {w : World} {mg : Str → Option Value} {x : Str} {a : Addr} {es : Array DictEntry} {n : Nat} {T : GTab} (hm : mg x = some (.ref a)) (hl : K.lookup a = some ⟨.type "dict", none, .dict es n, #[]⟩) (hk : PySem.W.KeysLit w.params es.toList) (hw : (a == sysModules) = false) (g : GEnt K es.toList T) : GDict K w mg x T := by
  refine ⟨a, es, n, hm, ⟨hl, hk, hw⟩, fun t e => ?_, fun t d e => ?_⟩
  · unfold PySem.W.nsIn
    rw [hl]
    show (match es.toList.find? (·.key.isStr (tS t)) with | some e => some (some e.val) | none => if es.toList.any (·.refKey) then none else some none) = _
    rw [(gent_find g t).1 e, gent_ref g]
    rfl
  · obtain ⟨en, v, e1, rv, rp⟩ := (gent_find g t).2 d e
    refine ⟨en.val, v, ?_, rv, rp⟩
    unfold PySem.W.nsIn
    rw [hl]
    show (match es.toList.find? (·.key.isStr (tS t)) with | some e => some (some e.val) | none => if es.toList.any (·.refKey) then none else some none) = _
    rw [e1]
end
end QW

end
section
/-! reckoning with runs: what a run that ends well ends in -/
namespace QW
open PySem PySem.Spec L2
/-- what follows is left alone while the first thing is reckoned: its type depends on it -/
inductive Fx {α : Sort _} (a : α) : Type where
  | mk
/-- it is there, and so -/
def atQ {α : Type} (o : Option α) (P : α → Prop) (_ : Fx P := .mk) : Prop := match o with
  | some x => P x
  | none => False
theorem at_some {α : Type} {x : α} {P : α → Prop} : atQ (some x) P ↔ P x := Iff.rfl
theorem at_none {α : Type} {P : α → Prop} : atQ none P ↔ False := Iff.rfl
theorem at_map {α β : Type} {o : Option α} {f : α → β} {P : β → Prop} : atQ (o.map f) P ↔ atQ o fun x => P (f x) := by cases o <;> exact Iff.rfl
theorem at_ex {α : Type} {o : Option α} {P : α → Prop} : atQ o P ↔ ∃ x, o = some x ∧ P x := by cases o <;> simp [atQ]
/-- the run ends well, and so -/
def Wp {ε α : Type} (E : String → ε → Prop) (m : R ε α) (Q : α → Prop) (_ : Fx (Q, E) := .mk) : Prop := match m with
  | .ok a => Q a
  | .exc c e => E c e
  | .stuck => False
/-- no exception -/
abbrev N0 {ε : Type} : String → ε → Prop := fun _ _ => False
section
variable {ε α β : Type} {E : String → ε → Prop}
theorem wp_ok {a : α} {Q : α → Prop} : Wp E (.ok a : R ε α) Q ↔ Q a := Iff.rfl
theorem wp_st {Q : α → Prop} : Wp E (.stuck : R ε α) Q ↔ False := Iff.rfl
theorem wp_exc {c : String} {e : ε} {Q : α → Prop} : Wp E (.exc c e : R ε α) Q ↔ E c e := Iff.rfl
theorem wp_bind {m : R ε α} {f : α → R ε β} {Q : β → Prop} : Wp E (m.bind f) Q ↔ Wp E m fun a => Wp E (f a) Q := by
  cases m <;> exact Iff.rfl
theorem Wp.monoE {m : R ε α} {Q Q' : α → Prop} (h : Wp E m Q) (k : ∀ a, Q a → Q' a) : Wp E m Q' := by
  cases m <;> first | exact k _ h | exact h
theorem Wp.mono {m : R ε α} {Q Q' : α → Prop} (h : Wp N0 m Q) (k : ∀ a, Q a → Q' a) : Wp E m Q' := by
  cases m <;> first | exact k _ h | exact h.elim
theorem Wp.eq {m : R ε α} {Q : α → Prop} (h : Wp N0 m Q) : ∃ a, m = .ok a ∧ Q a := by
  cases m <;> first | exact h.elim | exact ⟨_, rfl, h⟩
theorem wp_opt {o : Option α} {f : α → R ε β} {Q : β → Prop} : Wp E (opt o f) Q ↔ atQ o fun x => Wp E (f x) Q := by
  cases o <;> exact Iff.rfl
theorem wp_ite {c : Prop} [Decidable c] {m n : R ε α} {Q : α → Prop} : Wp E (if c then m else n) Q ↔ if c then Wp E m Q else Wp E n Q := by
  by_cases h : c <;> simp [h]
theorem wp_only {c : Prop} [Decidable c] {m : R ε α} {Q : α → Prop} : Wp E (if c then m else .stuck) Q ↔ c ∧ Wp E m Q := by
  by_cases h : c <;> simp [h, wp_st]
end
theorem wp_ext {ε α : Type} {E : String → ε → Prop} {m : R ε α} {Q Q' : α → Prop} (h : ∀ a, Q a ↔ Q' a) : Wp E m Q ↔ Wp E m Q' := by
  rw [show Q = Q' from funext fun a => propext (h a)]
theorem at_ext {α : Type} {o : Option α} {Q Q' : α → Prop} (h : ∀ a, Q a ↔ Q' a) : atQ o Q ↔ atQ o Q' := by
  rw [show Q = Q' from funext fun a => propext (h a)]
theorem ite_ext {c : Prop} [Decidable c] {A B A' B' : Prop} (h : A ↔ A') (g : B ↔ B') : (if c then A else B) ↔ if c then A' else B' := by
  by_cases z : c <;> simp only [z, if_true, if_false] <;> assumption
section
variable {E : String → EnvQ → Prop} {ρ : EnvQ} {fa fb fc : CE1} {fl : CL} {ca cb : CB} {fi : CI} {Q : Res × EnvQ → Prop} {B : Bool × EnvQ → Prop} {QL : List Res × EnvQ → Prop} {QS : Fl → Prop}
def slotQ (i : Nat) (ρ : EnvQ) (Q : Res × EnvQ → Prop) (o : Option Sl) (_ : Fx Q := .mk) : Prop := match o with
  | some (.sh d) => Q (.sh d, ρ)
  | some (.ow _ _) => Q (.al i, ρ)
  | _ => False
theorem slot_sh {i : Nat} {d : D} : slotQ i ρ Q (some (.sh d)) ↔ Q (.sh d, ρ) := Iff.rfl
theorem slot_ow {i : Nat} {l : Bool} {d : D} : slotQ i ρ Q (some (.ow l d)) ↔ Q (.al i, ρ) := Iff.rfl
theorem we_name {i : Nat} : Wp E (eName i ρ) Q ↔ slotQ i ρ Q ρ[i]? := by
  unfold eName
  cases ρ[i]? with
  | none => exact Iff.rfl
  | some s => cases s <;> exact Iff.rfl
def shareQ (i : Nat) (ρ : EnvQ) (Q : Res × EnvQ → Prop) (o : Option Sl) (_ : Fx Q := .mk) : Prop := match o with
  | some (.sh d) => Q (.sh d, ρ)
  | some (.ow false d) => Q (.sh d, ρ.set i (.sh d))
  | _ => False
theorem share_sh {i : Nat} {d : D} : shareQ i ρ Q (some (.sh d)) ↔ Q (.sh d, ρ) := Iff.rfl
theorem share_ow {i : Nat} {d : D} : shareQ i ρ Q (some (.ow false d)) ↔ Q (.sh d, ρ.set i (.sh d)) := Iff.rfl
theorem we_share {i : Nat} : Wp E (eShare i ρ) Q ↔ shareQ i ρ Q ρ[i]? := by
  unfold eShare
  cases ρ[i]? with
  | none => exact Iff.rfl
  | some s => cases s with
    | un => exact Iff.rfl
    | sh d => exact Iff.rfl
    | ow l d => cases l <;> exact Iff.rfl
theorem we_c {d : D} : Wp E (eC d ρ) Q ↔ Q (.sh d, ρ) := Iff.rfl
theorem we_bin {p : P2} : Wp E (eBin p fa fb ρ) Q ↔ Wp E (fa ρ) fun a => Wp E (fb a.2) fun b => atQ (a.1.get b.2) fun dx => atQ (b.1.get b.2) fun dy => atQ (p dx dy) fun r => Q (r.norm, b.2) := by
  unfold eBin eTwo
  repeat (first | exact Iff.rfl | (refine wp_bind.trans (wp_ext fun _ => ?_)) | (refine wp_opt.trans (at_ext fun _ => ?_)) | (refine wp_only.trans (and_congr_right fun _ => ?_)) | (refine wp_ite.trans (ite_ext ?_ ?_)))
theorem we_un {p : P1} : Wp E (eUn p fa ρ) Q ↔ Wp E (fa ρ) fun a => atQ (a.1.get a.2) fun dx => atQ (p dx) fun r => Q (r.norm, a.2) := by
  unfold eUn
  repeat (first | exact Iff.rfl | (refine wp_bind.trans (wp_ext fun _ => ?_)) | (refine wp_opt.trans (at_ext fun _ => ?_)) | (refine wp_only.trans (and_congr_right fun _ => ?_)) | (refine wp_ite.trans (ite_ext ?_ ?_)))
def blQ (ρ : EnvQ) (B : Bool × EnvQ → Prop) (d : D) (_ : Fx B := .mk) : Prop := match d with
  | .bl b => B (b, ρ)
  | _ => False
theorem bl_is {b : Bool} : blQ ρ B (.bl b) ↔ B (b, ρ) := Iff.rfl
theorem wb_val : Wp E (bVal fa ρ) B ↔ Wp E (fa ρ) fun a => atQ (a.1.get a.2) fun d => blQ a.2 B d := by
  unfold bVal
  rw [wp_bind]
  refine iff_of_eq (congrArg (fun Q => Wp E _ Q) (funext fun a => propext ?_))
  cases h : a.1.get a.2 with
  | none => exact Iff.rfl
  | some d => cases d <;> exact Iff.rfl
theorem we_if : Wp E (eIf ca fa fb ρ) Q ↔ Wp E (ca ρ) fun a => if a.1 = true then Wp E (fa a.2) Q else Wp E (fb a.2) Q := by
  unfold eIf
  repeat (first | exact Iff.rfl | (refine wp_bind.trans (wp_ext fun _ => ?_)) | (refine wp_opt.trans (at_ext fun _ => ?_)) | (refine wp_only.trans (and_congr_right fun _ => ?_)) | (refine wp_ite.trans (ite_ext ?_ ?_)))
theorem we_and : Wp E (eAnd fa fb ρ) Q ↔ Wp E (bVal fa ρ) fun a => if a.1 = true then Wp E (fb a.2) Q else Q (.sh (.bl false), a.2) := by
  unfold eAnd
  repeat (first | exact Iff.rfl | (refine wp_bind.trans (wp_ext fun _ => ?_)) | (refine wp_opt.trans (at_ext fun _ => ?_)) | (refine wp_only.trans (and_congr_right fun _ => ?_)) | (refine wp_ite.trans (ite_ext ?_ ?_)))
theorem we_or : Wp E (eOr fa fb ρ) Q ↔ Wp E (bVal fa ρ) fun a => if a.1 = true then Q (.sh (.bl true), a.2) else Wp E (fb a.2) Q := by
  unfold eOr
  repeat (first | exact Iff.rfl | (refine wp_bind.trans (wp_ext fun _ => ?_)) | (refine wp_opt.trans (at_ext fun _ => ?_)) | (refine wp_only.trans (and_congr_right fun _ => ?_)) | (refine wp_ite.trans (ite_ext ?_ ?_)))
theorem we_not : Wp E (eNot fa ρ) Q ↔ Wp E (bVal fa ρ) fun a => Q (.sh (.bl (!a.1)), a.2) := by
  unfold eNot
  repeat (first | exact Iff.rfl | (refine wp_bind.trans (wp_ext fun _ => ?_)) | (refine wp_opt.trans (at_ext fun _ => ?_)) | (refine wp_only.trans (and_congr_right fun _ => ?_)) | (refine wp_ite.trans (ite_ext ?_ ?_)))
theorem wb_and : Wp E (bAnd ca cb ρ) B ↔ Wp E (ca ρ) fun a => if a.1 = true then Wp E (cb a.2) B else B (false, a.2) := by
  unfold bAnd
  repeat (first | exact Iff.rfl | (refine wp_bind.trans (wp_ext fun _ => ?_)) | (refine wp_opt.trans (at_ext fun _ => ?_)) | (refine wp_only.trans (and_congr_right fun _ => ?_)) | (refine wp_ite.trans (ite_ext ?_ ?_)))
theorem wb_or : Wp E (bOr ca cb ρ) B ↔ Wp E (ca ρ) fun a => if a.1 = true then B (true, a.2) else Wp E (cb a.2) B := by
  unfold bOr
  repeat (first | exact Iff.rfl | (refine wp_bind.trans (wp_ext fun _ => ?_)) | (refine wp_opt.trans (at_ext fun _ => ?_)) | (refine wp_only.trans (and_congr_right fun _ => ?_)) | (refine wp_ite.trans (ite_ext ?_ ?_)))
theorem wb_not : Wp E (bNot ca ρ) B ↔ Wp E (ca ρ) fun a => B (!a.1, a.2) := by
  unfold bNot
  repeat (first | exact Iff.rfl | (refine wp_bind.trans (wp_ext fun _ => ?_)) | (refine wp_opt.trans (at_ext fun _ => ?_)) | (refine wp_only.trans (and_congr_right fun _ => ?_)) | (refine wp_ite.trans (ite_ext ?_ ?_)))
theorem wl_nil : Wp E (lNil ρ) QL ↔ QL ([], ρ) := Iff.rfl
theorem wl_cons : Wp E (lCons fa fl ρ) QL ↔ Wp E (fa ρ) fun a => Wp E (fl a.2) fun b => QL (a.1 :: b.1, b.2) := by
  unfold lCons
  repeat (first | exact Iff.rfl | (refine wp_bind.trans (wp_ext fun _ => ?_)) | (refine wp_opt.trans (at_ext fun _ => ?_)) | (refine wp_only.trans (and_congr_right fun _ => ?_)) | (refine wp_ite.trans (ite_ext ?_ ?_)))
theorem we_tup : Wp E (eTup fl ρ) Q ↔ Wp E (fl ρ) fun a => atQ (owns a.1) fun ds => ds.length ≤ 100000 ∧ Q (.sh (.tup ds), a.2) := by
  unfold eTup
  repeat (first | exact Iff.rfl | (refine wp_bind.trans (wp_ext fun _ => ?_)) | (refine wp_opt.trans (at_ext fun _ => ?_)) | (refine wp_only.trans (and_congr_right fun _ => ?_)) | (refine wp_ite.trans (ite_ext ?_ ?_)))
theorem we_lst : Wp E (eLst fl ρ) Q ↔ Wp E (fl ρ) fun a => atQ (owns a.1) fun ds => ds.length ≤ 100000 ∧ Q (.ow (.lst ds), a.2) := by
  unfold eLst
  repeat (first | exact Iff.rfl | (refine wp_bind.trans (wp_ext fun _ => ?_)) | (refine wp_opt.trans (at_ext fun _ => ?_)) | (refine wp_only.trans (and_congr_right fun _ => ?_)) | (refine wp_ite.trans (ite_ext ?_ ?_)))
theorem we_callB {p : PN} : Wp E (eCallB p fl ρ) Q ↔ Wp E (fl ρ) fun a => atQ (gets a.2 a.1) fun ds => atQ (p ds) fun r => Q (r.norm, a.2) := by
  unfold eCallB
  repeat (first | exact Iff.rfl | (refine wp_bind.trans (wp_ext fun _ => ?_)) | (refine wp_opt.trans (at_ext fun _ => ?_)) | (refine wp_only.trans (and_congr_right fun _ => ?_)) | (refine wp_ite.trans (ite_ext ?_ ?_)))
theorem we_isT {T : Tn} : Wp E (eIsT T fa ρ) Q ↔ Wp E (fa ρ) fun a => atQ (a.1.get a.2) fun d => atQ (isTn T d) fun b => Q (.sh (.bl b), a.2) := by
  unfold eIsT
  repeat (first | exact Iff.rfl | (refine wp_bind.trans (wp_ext fun _ => ?_)) | (refine wp_opt.trans (at_ext fun _ => ?_)) | (refine wp_only.trans (and_congr_right fun _ => ?_)) | (refine wp_ite.trans (ite_ext ?_ ?_)))
theorem we_call {n : Nat} {F : Fn} : Wp E (eCall n F fl ρ) Q ↔ Wp E (fl ρ) fun a => (lentS a.1).Nodup ∧ atQ (argsOf a.2 a.1) fun args => args.length = n ∧ Wp (fun c outs => E c (backS a.2 a.1 outs)) (F args) fun p => Q (p.1.res, backS a.2 a.1 p.2) := by
  unfold eCall
  refine wp_bind.trans (wp_ext fun a => wp_only.trans (and_congr_right fun _ => wp_opt.trans (at_ext fun args => wp_only.trans (and_congr_right fun _ => ?_))))
  cases F args <;> exact Iff.rfl
theorem we_disp : Wp E (eDisp fl ρ) Q ↔ Wp E (fl ρ) fun a => atQ (owns a.1) fun ds => atQ (pairsD ds) fun kvs => kvs.length ≤ 15 ∧ Q (.ow (.dk (mergeD [] kvs)), a.2) := by
  unfold eDisp
  repeat (first | exact Iff.rfl | (refine wp_bind.trans (wp_ext fun _ => ?_)) | (refine wp_opt.trans (at_ext fun _ => ?_)) | (refine wp_only.trans (and_congr_right fun _ => ?_)) | (refine wp_ite.trans (ite_ext ?_ ?_)))
/-! statements -/
theorem ws_nil : Wp E (sNil ρ) QS ↔ QS (.nx ρ) := Iff.rfl
def thenQ (E : String → EnvQ → Prop) (g : CS) (QS : Fl → Prop) (x : Fl) (_ : Fx (QS, E) := .mk) : Prop := match x with
  | .nx ρ' => Wp E (g ρ') QS
  | .rt r ρ' => QS (.rt r ρ')
theorem ws_seq {f g : CS} : Wp E (sSeq f g ρ) QS ↔ Wp E (f ρ) fun x => thenQ E g QS x := by
  unfold sSeq
  rw [wp_bind]
  refine iff_of_eq (congrArg (fun Q => Wp E _ Q) (funext fun x => ?_))
  cases x <;> rfl
theorem then_nx {g : CS} : thenQ E g QS (.nx ρ) ↔ Wp E (g ρ) QS := Iff.rfl
theorem then_rt {g : CS} {r : Ar} : thenQ E g QS (.rt r ρ) ↔ QS (.rt r ρ) := Iff.rfl
def storeQ (i : Nat) (s : Sl) (ρ : EnvQ) (QS : Fl → Prop) (o : Option Sl) (_ : Fx QS := .mk) : Prop := match o with
  | some s0 => s0.free = true ∧ QS (.nx (ρ.set i s))
  | none => False
theorem store_un {i : Nat} {s : Sl} : storeQ i s ρ QS (some .un) ↔ QS (.nx (ρ.set i s)) := by simp [storeQ, Sl.free]
theorem store_sh {i : Nat} {s : Sl} {d : D} : storeQ i s ρ QS (some (.sh d)) ↔ QS (.nx (ρ.set i s)) := by simp [storeQ, Sl.free]
theorem store_ow {i : Nat} {s : Sl} {d : D} : storeQ i s ρ QS (some (.ow false d)) ↔ QS (.nx (ρ.set i s)) := by simp [storeQ, Sl.free]
theorem ws_setSl {i : Nat} {s : Sl} : Wp E (setSl i s ρ) QS ↔ storeQ i s ρ QS ρ[i]? := by
  unfold setSl
  cases ρ[i]? with
  | none => exact Iff.rfl
  | some s0 => exact wp_only
def letQ (i : Nat) (QS : Fl → Prop) (x : Res × EnvQ) (_ : Fx QS := .mk) : Prop := match x with
  | (.sh d, ρ) => storeQ i (.sh d) ρ QS ρ[i]?
  | (.ow d, ρ) => storeQ i (.sh d) ρ QS ρ[i]?
  | (.al _, _) => False
theorem let_sh {i : Nat} {d : D} : letQ i QS (.sh d, ρ) ↔ storeQ i (.sh d) ρ QS ρ[i]? := Iff.rfl
theorem let_ow {i : Nat} {d : D} : letQ i QS (.ow d, ρ) ↔ storeQ i (.sh d) ρ QS ρ[i]? := Iff.rfl
theorem ws_let {i : Nat} : Wp E (sLet i fa ρ) QS ↔ Wp E (fa ρ) fun x => letQ i QS x := by
  unfold sLet
  rw [wp_bind]
  refine iff_of_eq (congrArg (fun Q => Wp E _ Q) (funext fun a => propext ?_))
  obtain ⟨r, ρ'⟩ := a
  cases r <;> first | exact ws_setSl | exact Iff.rfl
def setQ (i : Nat) (QS : Fl → Prop) (x : Res × EnvQ) (_ : Fx QS := .mk) : Prop := match x with
  | (.sh d, ρ) => storeQ i (.sh d) ρ QS ρ[i]?
  | (.ow d, ρ) => storeQ i (.ow false d) ρ QS ρ[i]?
  | (.al _, _) => False
theorem set_sh {i : Nat} {d : D} : setQ i QS (.sh d, ρ) ↔ storeQ i (.sh d) ρ QS ρ[i]? := Iff.rfl
theorem set_ow {i : Nat} {d : D} : setQ i QS (.ow d, ρ) ↔ storeQ i (.ow false d) ρ QS ρ[i]? := Iff.rfl
theorem ws_set {i : Nat} : Wp E (sSet i fa ρ) QS ↔ Wp E (fa ρ) fun x => setQ i QS x := by
  unfold sSet
  rw [wp_bind]
  refine iff_of_eq (congrArg (fun Q => Wp E _ Q) (funext fun a => propext ?_))
  obtain ⟨r, ρ'⟩ := a
  cases r <;> first | exact ws_setSl | exact Iff.rfl
theorem ws_expr : Wp E (sExpr fa ρ) QS ↔ Wp E (fa ρ) fun a => QS (.nx a.2) := by
  unfold sExpr
  repeat (first | exact Iff.rfl | (refine wp_bind.trans (wp_ext fun _ => ?_)) | (refine wp_opt.trans (at_ext fun _ => ?_)) | (refine wp_only.trans (and_congr_right fun _ => ?_)) | (refine wp_ite.trans (ite_ext ?_ ?_)))
theorem ws_if {f g : CS} : Wp E (sIf ca f g ρ) QS ↔ Wp E (ca ρ) fun a => if a.1 = true then Wp E (f a.2) QS else Wp E (g a.2) QS := by
  unfold sIf
  repeat (first | exact Iff.rfl | (refine wp_bind.trans (wp_ext fun _ => ?_)) | (refine wp_opt.trans (at_ext fun _ => ?_)) | (refine wp_only.trans (and_congr_right fun _ => ?_)) | (refine wp_ite.trans (ite_ext ?_ ?_)))
def retQ (QS : Fl → Prop) (x : Res × EnvQ) (_ : Fx QS := .mk) : Prop := match x with
  | (.sh d, ρ) => QS (.rt (.sh d) ρ)
  | (.ow d, ρ) => QS (.rt (.ow d) ρ)
  | (.al i, ρ) => match ρ[i]? with
    | some (.sh d) => QS (.rt (.sh d) ρ)
    | some (.ow false d) => QS (.rt (.ow d) ρ)
    | _ => False
def backQ (QS : Fl → Prop) (ρ : EnvQ) (o : Option Sl) (_ : Fx QS := .mk) : Prop := match o with
  | some (.sh d) => QS (.rt (.sh d) ρ)
  | some (.ow false d) => QS (.rt (.ow d) ρ)
  | _ => False
theorem back_sh {d : D} : backQ QS ρ (some (.sh d)) ↔ QS (.rt (.sh d) ρ) := Iff.rfl
theorem back_ow {d : D} : backQ QS ρ (some (.ow false d)) ↔ QS (.rt (.ow d) ρ) := Iff.rfl
theorem ret_sh {d : D} : retQ QS (.sh d, ρ) ↔ QS (.rt (.sh d) ρ) := Iff.rfl
theorem ret_ow {d : D} : retQ QS (.ow d, ρ) ↔ QS (.rt (.ow d) ρ) := Iff.rfl
theorem ret_al {i : Nat} : retQ QS (.al i, ρ) ↔ backQ QS ρ ρ[i]? := by
  show (match ρ[i]? with | some (.sh d) => QS (.rt (.sh d) ρ) | some (.ow false d) => QS (.rt (.ow d) ρ) | _ => False) ↔ _
  cases ρ[i]? with
  | none => exact Iff.rfl
  | some s => cases s with
    | un => exact Iff.rfl
    | sh d => exact Iff.rfl
    | ow l d => cases l <;> exact Iff.rfl
theorem ws_ret : Wp E (sRet fa ρ) QS ↔ Wp E (fa ρ) fun x => retQ QS x := by
  unfold sRet
  rw [wp_bind]
  refine iff_of_eq (congrArg (fun Q => Wp E _ Q) (funext fun a => propext ?_))
  obtain ⟨r, ρ'⟩ := a
  cases r with
  | sh d => exact Iff.rfl
  | ow d => exact Iff.rfl
  | al i =>
    show Wp E (match ρ'[i]? with | some (.sh d) => .ok (.rt (.sh d) ρ') | some (.ow false d) => .ok (.rt (.ow d) ρ') | _ => .stuck) QS ↔ match ρ'[i]? with | some (.sh d) => QS (.rt (.sh d) ρ') | some (.ow false d) => QS (.rt (.ow d) ρ') | _ => False
    cases ρ'[i]? with
    | none => exact Iff.rfl
    | some s => cases s with
      | un => exact Iff.rfl
      | sh d => exact Iff.rfl
      | ow l d => cases l <;> exact Iff.rfl
theorem ws_asg {fg : CG} : Wp E (sAsg fa fg ρ) QS ↔ Wp E (fa ρ) fun a => atQ (a.1.own) fun d => atQ (fg d a.2) fun ρ' => QS (.nx ρ') := by
  unfold sAsg
  repeat (first | exact Iff.rfl | (refine wp_bind.trans (wp_ext fun _ => ?_)) | (refine wp_opt.trans (at_ext fun _ => ?_)) | (refine wp_only.trans (and_congr_right fun _ => ?_)) | (refine wp_ite.trans (ite_ext ?_ ?_)))
theorem ws_for {g : CG} {b : CS} : Wp E (sFor fi g b ρ) QS ↔ Wp E (fi ρ) fun a => Wp E (loopFor g b a.1 a.2) QS := by
  unfold sFor
  repeat (first | exact Iff.rfl | (refine wp_bind.trans (wp_ext fun _ => ?_)) | (refine wp_opt.trans (at_ext fun _ => ?_)) | (refine wp_only.trans (and_congr_right fun _ => ?_)) | (refine wp_ite.trans (ite_ext ?_ ?_)))
/-- a loop by an invariant: what holds ahead of the items that are left -/
theorem wp_loop {g : CG} {b : CS} (I : List D → EnvQ → Prop) (hend : ∀ ρ, I [] ρ → QS (.nx ρ)) (hstep : ∀ d ds ρ, I (d :: ds) ρ → ∃ ρ1, g d ρ = some ρ1 ∧ Wp E (b ρ1) fun x => match x with
    | .nx ρ2 => I ds ρ2
    | .rt r ρ2 => QS (.rt r ρ2)) : ∀ (ds : List D) (ρ : EnvQ), I ds ρ → Wp E (loopFor g b ds ρ) QS
  | [], ρ, h => hend ρ h
  | d :: ds, ρ, h => by
    obtain ⟨ρ1, e, w⟩ := hstep d ds ρ h
    show Wp E (match g d ρ with | none => .stuck | some ρ1 => (b ρ1).bind fun x => match x with | .nx ρ2 => loopFor g b ds ρ2 | .rt r ρ2 => .ok (.rt r ρ2)) QS
    rw [e]
    show Wp E ((b ρ1).bind fun x => match x with | .nx ρ2 => loopFor g b ds ρ2 | .rt r ρ2 => .ok (.rt r ρ2)) QS
    rw [wp_bind]
    refine w.monoE fun x hx => ?_
    cases x with
    | nx ρ2 => exact wp_loop I hend hstep ds ρ2 hx
    | rt r ρ2 => exact hx
def runQ (args : List Ar) (Q : Ar × List Ar → Prop) (x : Fl) (_ : Fx Q := .mk) : Prop := match x with
  | .nx ρ => Q (.sh .non, outsOf args ρ)
  | .rt r ρ => Q (r, outsOf args ρ)
theorem run_nx {args : List Ar} {Q : Ar × List Ar → Prop} : runQ args Q (.nx ρ) ↔ Q (.sh .non, outsOf args ρ) := Iff.rfl
theorem run_rt {args : List Ar} {Q : Ar × List Ar → Prop} {r : Ar} : runQ args Q (.rt r ρ) ↔ Q (r, outsOf args ρ) := Iff.rfl
theorem wp_run {EA : String → List Ar → Prop} {m : Nat} {body : CS} {args : List Ar} {Q : Ar × List Ar → Prop} : Wp EA (runFn m body args) Q ↔ Wp (fun c ρ => EA c (outsOf args ρ)) (body (args.map Ar.sl ++ List.replicate (m - args.length) .un)) fun x => runQ args Q x := by
  unfold runFn
  cases body (args.map Ar.sl ++ List.replicate (m - args.length) .un) with
  | stuck => exact Iff.rfl
  | exc c ρ => exact Iff.rfl
  | ok a => cases a <;> exact Iff.rfl
def Res.asS : Res → Option (List Nat)
  | .sh (.str t) => some t
  | _ => none
theorem we_mtS {p : PM} : Wp E (eMtS p fa fl ρ) Q ↔ Wp E (fa ρ) fun a => atQ a.1.asS fun t => Wp E (fl a.2) fun b => atQ (gets b.2 b.1) fun ds => atQ (p t ds) fun r => Q (r.norm, b.2) := by
  unfold eMtS
  refine wp_bind.trans (wp_ext fun a => ?_)
  obtain ⟨r, ρ'⟩ := a
  cases r with
  | al i => exact Iff.rfl
  | ow d => exact Iff.rfl
  | sh d =>
    cases d <;> first | exact Iff.rfl | exact wp_bind.trans (wp_ext fun b => wp_opt.trans (at_ext fun ds => wp_opt.trans (at_ext fun r => Iff.rfl)))
def D.asI : D → Option Int
  | .int i => some i
  | _ => none
theorem wo_none {QO : Option Int × EnvQ → Prop} : Wp E (oNone ρ) QO ↔ QO (none, ρ) := Iff.rfl
theorem wo_some {QO : Option Int × EnvQ → Prop} : Wp E (oSome fa ρ) QO ↔ Wp E (fa ρ) fun a => atQ (a.1.get a.2) fun d => atQ d.asI fun i => QO (some i, a.2) := by
  unfold oSome
  refine wp_bind.trans (wp_ext fun a => ?_)
  cases a.1.get a.2 with
  | none => exact Iff.rfl
  | some d => cases d <;> exact Iff.rfl
theorem we_slice {p : PS3} {f1 f2 : CO} : Wp E (eSlice p fa f1 f2 ρ) Q ↔ Wp E (fa ρ) fun a => Wp E (f1 a.2) fun l => Wp E (f2 l.2) fun h => atQ (a.1.get h.2) fun dx => atQ (p dx l.1 h.1) fun r => Q (r.norm, h.2) := by
  unfold eSlice
  exact wp_bind.trans (wp_ext fun a => wp_bind.trans (wp_ext fun l => wp_bind.trans (wp_ext fun h => wp_opt.trans (at_ext fun dx => wp_opt.trans (at_ext fun r => Iff.rfl)))))
theorem ws_raise {c : String} : Wp E (sRaise c ρ) QS ↔ E c ρ := Iff.rfl
def tryE (i j : Nat) (T : String → Option (List Nat)) (QS : Fl → Prop) : String → EnvQ → Prop := fun c ρ' => atQ (T c) fun t => atQ ρ'[i]? fun si => atQ ρ'[j]? fun sj => (si.free = true ∧ sj.free = true ∧ i ≠ j) ∧ QS (.nx ((ρ'.set i .un).set j (.sh (.str t))))
theorem ws_try {i j : Nat} {T : String → Option (List Nat)} {f : CS} : Wp E (sTry i j T f ρ) QS ↔ Wp (tryE i j T QS) (f ρ) QS := by
  unfold sTry
  cases f ρ with
  | ok a => exact Iff.rfl
  | stuck => exact Iff.rfl
  | exc c ρ' =>
    show Wp E (match T c, ρ'[i]?, ρ'[j]? with | some t, some si, some sj => if si.free = true ∧ sj.free = true ∧ i ≠ j then .ok (.nx ((ρ'.set i .un).set j (.sh (.str t)))) else .stuck | _, _, _ => .stuck) QS ↔ tryE i j T QS c ρ'
    unfold tryE
    cases T c with
    | none => exact Iff.rfl
    | some t =>
      cases ρ'[i]? with
      | none => exact Iff.rfl
      | some si =>
        cases ρ'[j]? with
        | none => exact Iff.rfl
        | some sj => exact wp_only
/-! walks -/
def D.asL : D → Option (List D)
  | .lst xs => some xs
  | _ => none
def D.asT : D → Option (List D)
  | .tup xs => some xs
  | .ctup xs => some xs
  | _ => none
def D.asS : D → Option (List Nat)
  | .str t => some t
  | _ => none
def asI1 : List D → Option Int
  | [.int j] => some j
  | _ => none
def asI2 : List D → Option (Int × Int)
  | [.int i, .int j] => some (i, j)
  | _ => none
section
variable {QI : List D × EnvQ → Prop}
theorem wi_seq : Wp E (iSeq fa ρ) QI ↔ Wp E (fa ρ) fun a => atQ (a.1.own) fun d => atQ d.asL fun xs => QI (xs, a.2) := by
  unfold iSeq
  refine wp_bind.trans (wp_ext fun a => ?_)
  cases a.1.own with
  | none => exact Iff.rfl
  | some d => cases d <;> exact Iff.rfl
theorem wi_tup : Wp E (iTupl fa ρ) QI ↔ Wp E (fa ρ) fun a => atQ (a.1.own) fun d => atQ d.asT fun xs => QI (xs, a.2) := by
  unfold iTupl
  refine wp_bind.trans (wp_ext fun a => ?_)
  cases a.1.own with
  | none => exact Iff.rfl
  | some d => cases d <;> exact Iff.rfl
theorem wi_str : Wp E (iStrg fa ρ) QI ↔ Wp E (fa ρ) fun a => atQ (a.1.own) fun d => atQ d.asS fun t => QI (t.map fun c => .str [c], a.2) := by
  unfold iStrg
  refine wp_bind.trans (wp_ext fun a => ?_)
  cases a.1.own with
  | none => exact Iff.rfl
  | some d => cases d <;> exact Iff.rfl
theorem wi_r1 : Wp E (iRng1' fl ρ) QI ↔ Wp E (fl ρ) fun a => atQ (gets a.2 a.1) fun ds => atQ (asI1 ds) fun j => (-(2 ^ 62) ≤ j ∧ j < 2 ^ 62) ∧ QI (rng 0 j, a.2) := by
  unfold iRng1'
  refine wp_bind.trans (wp_ext fun a => ?_)
  cases gets a.2 a.1 with
  | none => exact Iff.rfl
  | some ds =>
    match ds with
    | [] => exact Iff.rfl
    | [.int j] => exact wp_only
    | [.non] => exact Iff.rfl
    | [.bl _] => exact Iff.rfl
    | [.str _] => exact Iff.rfl
    | [.lst _] => exact Iff.rfl
    | [.clst _] => exact Iff.rfl
    | [.tup _] => exact Iff.rfl
    | [.ctup _] => exact Iff.rfl
    | [.dk _] => exact Iff.rfl
    | [.dt _] => exact Iff.rfl
    | d :: e :: r => cases d <;> exact Iff.rfl
end
def loopQ (E : String → EnvQ → Prop) (g : CG) (b : CS) (ds : List D) (QS : Fl → Prop) (x : Fl) (_ : Fx (QS, E) := .mk) : Prop := match x with
  | .nx ρ2 => Wp E (loopFor g b ds ρ2) QS
  | .rt r ρ2 => QS (.rt r ρ2)
theorem loop_nx {g : CG} {b : CS} {ds : List D} : loopQ E g b ds QS (.nx ρ) ↔ Wp E (loopFor g b ds ρ) QS := Iff.rfl
theorem loop_rt {g : CG} {b : CS} {ds : List D} {r : Ar} : loopQ E g b ds QS (.rt r ρ) ↔ QS (.rt r ρ) := Iff.rfl
theorem lp_nil {g : CG} {b : CS} : Wp E (loopFor g b [] ρ) QS ↔ QS (.nx ρ) := Iff.rfl
theorem lp_cons {g : CG} {b : CS} {d : D} {ds : List D} : Wp E (loopFor g b (d :: ds) ρ) QS ↔ atQ (g d ρ) fun ρ1 => Wp E (b ρ1) fun x => loopQ E g b ds QS x := by
  show Wp E (match g d ρ with | none => .stuck | some ρ1 => (b ρ1).bind fun x => match x with | .nx ρ2 => loopFor g b ds ρ2 | .rt r ρ2 => .ok (.rt r ρ2)) QS ↔ _
  cases g d ρ with
  | none => exact Iff.rfl
  | some ρ1 =>
    refine wp_bind.trans (wp_ext fun x => ?_)
    cases x <;> exact Iff.rfl
/-! comprehensions -/
theorem wp_noX {ε α : Type} {E : String → ε → Prop} {m : R ε α} {Q : α → Prop} : Wp E (noX m) Q ↔ Wp N0 m Q := by cases m <;> exact Iff.rfl
theorem we_comp {j : Nat} {ct : CB} : Wp E (eComp j fi ct fa ρ) Q ↔ Wp E (fi ρ) fun a => atQ (a.2[j]?) fun s0 => (s0.plain = true ∧ a.1.length ≤ 100000) ∧ Wp E (loopLc j ct fa a.1 (a.2.set j .un)) fun r => Q (.ow (.lst r.1), r.2.set j s0) := by
  unfold eComp
  refine wp_bind.trans (wp_ext fun a => ?_)
  cases a.2[j]? with
  | none => exact Iff.rfl
  | some s0 => exact wp_only.trans (and_congr_right fun _ => wp_bind)
theorem wb_yes : Wp E (bYes ρ) B ↔ B (true, ρ) := Iff.rfl
theorem lc_nil {j : Nat} {ct : CB} {QL : List D × EnvQ → Prop} : Wp E (loopLc j ct fa [] ρ) QL ↔ QL ([], ρ) := Iff.rfl
theorem lc_cons {j : Nat} {ct : CB} {d : D} {ds : List D} {QL : List D × EnvQ → Prop} : Wp E (loopLc j ct fa (d :: ds) ρ) QL ↔ Wp N0 (ct (ρ.set j (.sh d))) fun a => if a.1 = true then Wp N0 (fa a.2) fun x => atQ x.1.own fun dx => Wp E (loopLc j ct fa ds (x.2.set j .un)) fun r => QL (dx :: r.1, r.2) else Wp E (loopLc j ct fa ds (a.2.set j .un)) QL := by
  show Wp E ((noX (ct (ρ.set j (.sh d)))).bind fun a => if a.1 = true then (noX (fa a.2)).bind fun x => opt x.1.own fun dx => (loopLc j ct fa ds (x.2.set j .un)).bind fun r => .ok (dx :: r.1, r.2) else loopLc j ct fa ds (a.2.set j .un)) QL ↔ _
  refine wp_bind.trans (wp_noX.trans (wp_ext fun a => wp_ite.trans (ite_ext (wp_bind.trans (wp_noX.trans (wp_ext fun x => wp_opt.trans (at_ext fun dx => wp_bind.trans (wp_ext fun r => Iff.rfl))))) Iff.rfl)))
/-- a comprehension without a test, by an invariant: what is told so far of the items gone through -/
theorem lc_by {j : Nat} (I : List D → List D → EnvQ → Prop) {QL : List D × EnvQ → Prop} (hend : ∀ acc ρ, I acc [] ρ → QL (acc, ρ))
    (hstep : ∀ acc d ds ρ, I acc (d :: ds) ρ → Wp N0 (fa (ρ.set j (.sh d))) fun x => atQ x.1.own fun dx => I (acc ++ [dx]) ds (x.2.set j .un)) : ∀ (ds acc : List D) (ρ : EnvQ), I acc ds ρ → Wp E (loopLc j bYes fa ds ρ) fun r => QL (acc ++ r.1, r.2)
  | [], acc, ρ, h => by
    show QL (acc ++ [], ρ)
    rw [List.append_nil]
    exact hend acc ρ h
  | d :: ds, acc, ρ, h => by
    rw [lc_cons]
    refine wb_yes.mpr ?_
    refine (iff_of_eq (if_pos (show ((true, ρ.set j (.sh d)) : Bool × EnvQ).1 = true from rfl))).mpr ?_
    refine (hstep acc d ds ρ h).mono fun x hx => ?_
    cases e : x.1.own with
    | none => rw [e] at hx; exact hx.elim
    | some dx =>
      rw [e] at hx
      refine (lc_by I hend hstep ds (acc ++ [dx]) _ hx).monoE fun r hr => ?_
      show QL (acc ++ dx :: r.1, r.2)
      rw [show acc ++ dx :: r.1 = acc ++ [dx] ++ r.1 by simp]
      exact hr
/-! subscript stores, methods -/
def ownQ (s : Nat) (ρ : EnvQ) (k : Bool → D → Prop) (o : Option Sl) (_ : Fx k := .mk) : Prop := match o with
  | some (.ow l d) => k l d
  | _ => False
theorem own_ow {s : Nat} {k : Bool → D → Prop} {l : Bool} {d : D} : ownQ s ρ k (some (.ow l d)) ↔ k l d := Iff.rfl
theorem ws_sub {s : Nat} {p : PMut} : Wp E (sSub s p fa fb ρ) QS ↔ Wp E (fa ρ) fun a => ownQ s a.2 (fun _ _ => Wp E (fb a.2) fun b => ownQ s b.2 (fun l d => atQ (a.1.own) fun dv => atQ (b.1.get b.2) fun di => atQ (p d [di, dv]) fun r => QS (.nx (b.2.set s (.ow l r.1)))) b.2[s]?) a.2[s]? := by
  unfold sSub
  rw [wp_bind]
  refine iff_of_eq (congrArg (fun Q => Wp E _ Q) (funext fun a => propext ?_))
  cases a.2[s]? with
  | none => exact Iff.rfl
  | some s0 => cases s0 with
    | un => exact Iff.rfl
    | sh d => exact Iff.rfl
    | ow l d =>
      show Wp E ((fb a.2).bind _) QS ↔ Wp E (fb a.2) _
      rw [wp_bind]
      refine iff_of_eq (congrArg (fun Q => Wp E _ Q) (funext fun b => propext ?_))
      cases b.2[s]? with
      | none => exact Iff.rfl
      | some s1 => cases s1 with
        | un => exact Iff.rfl
        | sh d => exact Iff.rfl
        | ow l d =>
          show Wp E (opt _ _) QS ↔ _
          repeat (first | exact Iff.rfl | (refine wp_bind.trans (wp_ext fun _ => ?_)) | (refine wp_opt.trans (at_ext fun _ => ?_)) | (refine wp_only.trans (and_congr_right fun _ => ?_)) | (refine wp_ite.trans (ite_ext ?_ ?_)))
theorem we_mut {s : Nat} {k : D → Bool} {p : PMut} : Wp E (eMut s k p fl ρ) Q ↔ ownQ s ρ (fun _ d0 => k d0 = true ∧ Wp E (fl ρ) fun a => ownQ s a.2 (fun l d => atQ (owns a.1) fun ds => atQ (p d ds) fun r => Q (.sh r.2, a.2.set s (.ow l r.1))) a.2[s]?) ρ[s]? := by
  unfold eMut
  cases ρ[s]? with
  | none => exact Iff.rfl
  | some s0 => cases s0 with
    | un => exact Iff.rfl
    | sh d => exact Iff.rfl
    | ow l d =>
      show Wp E (if k d = true then _ else .stuck) Q ↔ k d = true ∧ _
      rw [wp_only, wp_bind]
      refine and_congr_right fun _ => iff_of_eq (congrArg (fun Q => Wp E _ Q) (funext fun b => propext ?_))
      cases b.2[s]? with
      | none => exact Iff.rfl
      | some s1 => cases s1 with
        | un => exact Iff.rfl
        | sh d => exact Iff.rfl
        | ow l d =>
          show Wp E (opt _ _) Q ↔ _
          repeat (first | exact Iff.rfl | (refine wp_bind.trans (wp_ext fun _ => ?_)) | (refine wp_opt.trans (at_ext fun _ => ?_)) | (refine wp_only.trans (and_congr_right fun _ => ?_)) | (refine wp_ite.trans (ite_ext ?_ ?_)))
/-! operations on whole numbers -/
theorem p_add {i j : Int} {P : Res → Prop} : atQ (addP (.int i) (.int j)) P ↔ P (.sh (.int (i + j))) := Iff.rfl
theorem p_sub {i j : Int} {P : Res → Prop} : atQ (subP (.int i) (.int j)) P ↔ P (.sh (.int (i - j))) := Iff.rfl
theorem p_mul {i j : Int} {P : Res → Prop} : atQ (mulP (.int i) (.int j)) P ↔ i.natAbs.log2 + j.natAbs.log2 < 1000000 ∧ P (.sh (.int (i * j))) := by
  unfold mulP
  by_cases h : i.natAbs.log2 + j.natAbs.log2 < 1000000 <;> simp [h, atQ]
theorem p_mod {i j : Int} {P : Res → Prop} : atQ (modP (.int i) (.int j)) P ↔ 0 < j ∧ P (.sh (.int (i % j))) := by
  unfold modP pV
  by_cases h : 0 < j <;> simp [h, atQ]
theorem p_fdiv {i j : Int} {P : Res → Prop} : atQ (fdivP (.int i) (.int j)) P ↔ (0 < j ∧ j.natAbs.log2 < 9000) ∧ P (.sh (.int (i / j))) := by
  unfold fdivP pV
  by_cases h : 0 < j ∧ j.natAbs.log2 < 9000 <;> simp [h, atQ]
theorem p_pow {i j : Int} {P : Res → Prop} : atQ (powP (.int i) (.int j)) P ↔ (0 ≤ j ∧ j ≤ 1000 ∧ i.natAbs < 2 ^ 64) ∧ P (.sh (.int (i ^ j.toNat))) := by
  unfold powP pV
  by_cases h : 0 ≤ j ∧ j ≤ 1000 ∧ i.natAbs < 2 ^ 64 <;> simp [h, atQ]
theorem p_neg {i : Int} {P : Res → Prop} : atQ (negP (.int i)) P ↔ P (.sh (.int (-i))) := Iff.rfl
theorem p_lt {i j : Int} {P : Res → Prop} : atQ (ltP (.int i) (.int j)) P ↔ P (.sh (.bl (decide (i < j)))) := Iff.rfl
theorem p_le {i j : Int} {P : Res → Prop} : atQ (leP (.int i) (.int j)) P ↔ P (.sh (.bl (decide (i ≤ j)))) := Iff.rfl
theorem p_gt {i j : Int} {P : Res → Prop} : atQ (gtP (.int i) (.int j)) P ↔ P (.sh (.bl (decide (j < i)))) := Iff.rfl
theorem p_ge {i j : Int} {P : Res → Prop} : atQ (geP (.int i) (.int j)) P ↔ P (.sh (.bl (decide (j ≤ i)))) := Iff.rfl
theorem p_eqI {i j : Int} {P : Res → Prop} : atQ (eqP (.int i) (.int j)) P ↔ P (.sh (.bl (i == j))) := by
  exact Iff.rfl
theorem p_neI {i j : Int} {P : Res → Prop} : atQ (neP (.int i) (.int j)) P ↔ P (.sh (.bl (!(i == j)))) := by
  exact Iff.rfl
end
end QW

end
section
/-! reckoning with the further combinators; == of data -/
namespace QW
open PySem PySem.Spec L2
section
variable {E : String → EnvQ → Prop} {ρ : EnvQ} {fa fb fc : CE1} {fl : CL} {ca cb : CB} {fi : CI} {Q : Res × EnvQ → Prop} {B : Bool × EnvQ → Prop} {QL : List Res × EnvQ → Prop} {QS : Fl → Prop} {QI : List D × EnvQ → Prop}
theorem wi_any : Wp E (iAny fa ρ) QI ↔ Wp E (fa ρ) fun a => atQ a.1.own fun d => atQ d.walk fun xs => QI (xs, a.2) := by
  unfold iAny
  exact wp_bind.trans (wp_ext fun a => wp_opt.trans (at_ext fun d => wp_opt.trans (at_ext fun xs => Iff.rfl)))
theorem wk_l {xs : List D} : D.walk (.lst xs) = some xs := rfl
theorem wk_t {xs : List D} : D.walk (.tup xs) = some xs := rfl
theorem wk_c {xs : List D} : D.walk (.ctup xs) = some xs := rfl
theorem wk_s {t : List Nat} : D.walk (.str t) = some (t.map fun c => .str [c]) := rfl
theorem wi_r2 : Wp E (iRng2' fl ρ) QI ↔ Wp E (fl ρ) fun a => atQ (gets a.2 a.1) fun ds => atQ (asI2 ds) fun p => (-(2 ^ 62) ≤ p.1 ∧ p.1 < 2 ^ 62 ∧ -(2 ^ 62) ≤ p.2 ∧ p.2 < 2 ^ 62) ∧ QI (rng p.1 p.2, a.2) := by
  unfold iRng2'
  refine wp_bind.trans (wp_ext fun a => ?_)
  cases gets a.2 a.1 with
  | none => exact Iff.rfl
  | some ds =>
    match ds with
    | [] => exact Iff.rfl
    | [d] => cases d <;> exact Iff.rfl
    | d :: e :: f :: r => cases d <;> first | exact Iff.rfl | (cases e <;> exact Iff.rfl)
    | [d, e] =>
      cases d with
      | int i =>
        cases e with
        | int j => exact wp_only
        | _ => exact Iff.rfl
      | _ => exact Iff.rfl
def parQ (i j : Nat) (ρ : EnvQ) (QS : Fl → Prop) (ds : List D) (_ : Fx QS := .mk) : Prop := match ds with
  | [d1, d2] => Wp N0 (setSl i (.sh d1) ρ) fun x => match x with
    | .nx ρ' => Wp N0 (setSl j (.sh d2) ρ') QS
    | .rt _ _ => False
  | _ => False
def nextQ (j : Nat) (d : D) (QS : Fl → Prop) (x : Fl) (_ : Fx QS := .mk) : Prop := match x with
  | .nx ρ' => storeQ j (.sh d) ρ' QS ρ'[j]?
  | .rt _ _ => False
theorem next_nx {j : Nat} {d : D} : nextQ j d QS (.nx ρ) ↔ storeQ j (.sh d) ρ QS ρ[j]? := Iff.rfl
theorem par_2 {i j : Nat} {d1 d2 : D} : Wp E (par2 i j [d1, d2] ρ) QS ↔ storeQ i (.sh d1) ρ (fun x => nextQ j d2 QS x) ρ[i]? := by
  show Wp E ((setSl i (.sh d1) ρ).bind fun x => match x with | .nx ρ' => setSl j (.sh d2) ρ' | .rt _ _ => .stuck) QS ↔ _
  rw [wp_bind]
  refine Iff.trans (wp_ext fun x => ?_) ws_setSl
  cases x with
  | nx ρ' => exact ws_setSl
  | rt r ρ' => exact Iff.rfl
theorem ws_par {i j : Nat} : Wp E (sPar i j fl ρ) QS ↔ Wp E (fl ρ) fun a => atQ (owns a.1) fun ds => Wp E (par2 i j ds a.2) QS := by
  unfold sPar
  exact wp_bind.trans (wp_ext fun a => wp_opt)
theorem ws_tryR {c1 c2 : String} {f : CS} : Wp E (sTryR c1 c2 f ρ) QS ↔ Wp N0 (f ρ) QS := by
  unfold sTryR
  cases f ρ <;> exact Iff.rfl
/-- a while by a measure -/
theorem wp_while {c : CB} {b : CS} (I : EnvQ → Prop) (μ : EnvQ → Nat) (hstep : ∀ ρ, I ρ → Wp E (c ρ) fun a => if a.1 = true then Wp E (b a.2) (fun x => match x with
    | .nx ρ2 => I ρ2 ∧ μ ρ2 < μ ρ
    | .rt r ρ2 => QS (.rt r ρ2)) else QS (.nx a.2)) : ∀ (n : Nat) (ρ : EnvQ), I ρ → μ ρ < n → Wp E (loopWhile c b n ρ) QS
  | 0, ρ, _, h => absurd h (Nat.not_lt_zero _)
  | n + 1, ρ, hI, hn => by
    have hs := hstep ρ hI
    unfold loopWhile
    refine wp_bind.mpr (hs.monoE fun a ha => ?_)
    by_cases z : a.1 = true
    · rw [if_pos z] at ha
      rw [if_pos z]
      refine wp_bind.mpr (ha.monoE fun x hx => ?_)
      cases x with
      | nx ρ2 => exact wp_while I μ hstep n ρ2 hx.1 (by omega)
      | rt r ρ2 => exact hx
    · rw [if_neg z] at ha
      rw [if_neg z]
      exact ha
theorem ws_while {f : EnvQ → Nat} {c : CB} {b : CS} : Wp E (sWhile f c b ρ) QS ↔ Wp E (loopWhile c b (f ρ) ρ) QS := Iff.rfl
def chainQ (A B : Prop) (r : Res) (_ : Fx (A, B) := .mk) : Prop := match r with
  | .sh (.bl true) => A
  | .sh (.bl false) => B
  | _ => False
theorem chain_b {A B : Prop} {b : Bool} : chainQ A B (.sh (.bl b)) ↔ if b = true then A else B := by cases b <;> simp [chainQ]
theorem we_chain {p q : P2} : Wp E (eChain p q fa fb fc ρ) Q ↔ Wp E (fa ρ) fun a => Wp E (fb a.2) fun b => atQ (a.1.get b.2) fun dx => atQ (b.1.get b.2) fun dy => atQ (p dx dy) fun r => chainQ (Wp E (fc b.2) fun c => atQ (b.1.get c.2) fun dy => atQ (c.1.get c.2) fun dz => atQ (q dy dz) fun r => Q (r.norm, c.2)) (Q (.sh (.bl false), b.2)) r.norm := by
  unfold eChain kP2
  refine wp_bind.trans (wp_ext fun a => wp_bind.trans (wp_ext fun b => wp_bind.trans (wp_opt.trans (at_ext fun dx => wp_opt.trans (at_ext fun dy => wp_opt.trans (at_ext fun r => ?_))))))
  show Wp E (match r.norm with | .sh (.bl true) => (fc b.2).bind fun c => opt (b.1.get c.2) fun dx => opt (c.1.get c.2) fun dy => opt (q dx dy) fun r => .ok (r.norm, c.2) | .sh (.bl false) => .ok (.sh (.bl false), b.2) | _ => .stuck) Q ↔ _
  cases r.norm with
  | al i => exact Iff.rfl
  | ow d => exact Iff.rfl
  | sh d =>
    cases d with
    | bl b' =>
      cases b' with
      | false => exact Iff.rfl
      | true => exact wp_bind.trans (wp_ext fun c => wp_opt.trans (at_ext fun dx => wp_opt.trans (at_ext fun dy => wp_opt.trans (at_ext fun r => Iff.rfl))))
    | _ => exact Iff.rfl
/-! texts, numbers -/
theorem p_mulT {t : List Nat} {n : Int} {P : Res → Prop} : atQ (mulP (.str t) (.int n)) P ↔ (n < 1000000 ∧ t.length * n.toNat ≤ 1000000 ∧ -1000000 < n) ∧ P (.sh (.str (manyT t n))) := by
  unfold mulP
  by_cases h : n < 1000000 ∧ t.length * n.toNat ≤ 1000000 ∧ -1000000 < n <;> simp [h, atQ]
theorem p_mulL {xs : List D} {k : Int} {P : Res → Prop} : atQ (mulP (.lst xs) (.int k)) P ↔ (k < 100000 ∧ xs.length * k.toNat ≤ 100000 ∧ -100000 < k) ∧ P (.ow (.lst (List.replicate k.toNat xs).flatten)) := by
  unfold mulP
  by_cases h : k < 100000 ∧ xs.length * k.toNat ≤ 100000 ∧ -100000 < k <;> simp [h, atQ]
theorem p_addT {a b : List Nat} {P : Res → Prop} : atQ (addP (.str a) (.str b)) P ↔ a.length + b.length ≤ 1000000 ∧ P (.sh (.str (a ++ b))) := by
  unfold addP
  by_cases h : a.length + b.length ≤ 1000000 <;> simp [h, atQ]
theorem p_addL {a b : List D} {P : Res → Prop} : atQ (addP (.lst a) (.lst b)) P ↔ a.length + b.length ≤ 100000 ∧ P (.ow (.lst (a ++ b))) := by
  unfold addP
  by_cases h : a.length + b.length ≤ 100000 <;> simp [h, atQ]
theorem p_slT {t : List Nat} {lo hi : Option Int} {P : Res → Prop} : atQ (slD (.str t) lo hi) P ↔ t.length ≤ 1000000 ∧ P (.sh (.str (cutD t lo hi))) := by
  unfold slD
  by_cases h : t.length ≤ 1000000 <;> simp [h, atQ]
theorem p_slL {xs : List D} {lo hi : Option Int} {P : Res → Prop} : atQ (slD (.lst xs) lo hi) P ↔ P (.ow (.lst (cutD xs lo hi))) := Iff.rfl
theorem p_start {t w : List Nat} {P : Res → Prop} : atQ (startP t [.str w]) P ↔ P (.sh (.bl (stands t w 0))) := Iff.rfl
theorem p_start3 {t w : List Nat} {i : Int} {P : Res → Prop} : atQ (startP t [.str w, .int i]) P ↔ 0 ≤ i ∧ P (.sh (.bl (stands t w i.toNat))) := by
  unfold startP
  by_cases h : 0 ≤ i <;> simp [h, atQ]
theorem p_end {t w : List Nat} {P : Res → Prop} : atQ (endP t [.str w]) P ↔ P (.sh (.bl (decide (w.length ≤ t.length) && stands t w (t.length - w.length)))) := Iff.rfl
theorem p_lenT {t : List Nat} {P : Res → Prop} : atQ (lenP [.str t]) P ↔ t.length ≤ 1000000 ∧ P (.sh (.int t.length)) := by
  unfold lenP pN lenD
  by_cases h : t.length ≤ 1000000 <;> simp [h, atQ]
theorem p_sumL {ns : List Int} {P : Res → Prop} : atQ (sumP [.lst (ns.map D.int)]) P ↔ P (.sh (.int ns.sum)) := by
  have e : intsD (ns.map D.int) = some ns := by
    induction ns with
    | nil => rfl
    | cons n r ih =>
      show (intsD (r.map D.int)).map _ = _
      rw [ih]
      rfl
  show atQ (((intsD (ns.map D.int)).map fun ns => D.int ns.sum).map Res.sh) P ↔ _
  rw [e]
  exact Iff.rfl
theorem ints_map (ns : List Int) : intsD (ns.map D.int) = some ns := by
  induction ns with
  | nil => rfl
  | cons n r ih =>
    show (intsD (r.map D.int)).map _ = _
    rw [ih]
    rfl
theorem strs_map (ns : List (List Nat)) : strsD (ns.map D.str) = some ns := by
  induction ns with
  | nil => rfl
  | cons n r ih =>
    show (strsD (r.map D.str)).map _ = _
    rw [ih]
    rfl
theorem bls_map (ns : List Bool) : blsD (ns.map D.bl) = some ns := by
  induction ns with
  | nil => rfl
  | cons n r ih =>
    show (blsD (r.map D.bl)).map _ = _
    rw [ih]
    rfl
theorem p_sumT {a b c d : Int} {P : Res → Prop} : atQ (sumP [.tup [.int a, .int b, .int c, .int d]]) P ↔ P (.sh (.int [a, b, c, d].sum)) := Iff.rfl
theorem p_minT {a b c d : Int} {P : Res → Prop} : atQ (min1P [.tup [.int a, .int b, .int c, .int d]]) P ↔ P (.sh (.int (min (min (min a b) c) d))) := Iff.rfl
theorem p_ii_max {i j : Int} {P : Res → Prop} : atQ (max2P [.int i, .int j]) P ↔ P (.sh (.int (max i j))) := by
  have e : (if j > i then j else i) = max i j := by split <;> omega
  show P (.sh (.int (if j > i then j else i))) ↔ _
  rw [e]
theorem p_ii_min {i j : Int} {P : Res → Prop} : atQ (min2P [.int i, .int j]) P ↔ P (.sh (.int (min i j))) := by
  have e : (if j < i then j else i) = min i j := by split <;> omega
  show P (.sh (.int (if j < i then j else i))) ↔ _
  rw [e]
theorem p_abs {i : Int} {P : Res → Prop} : atQ (absP [.int i]) P ↔ P (.sh (.int (if i < 0 then -i else i))) := Iff.rfl
/-! == of data -/
mutual
/-- data without dicts, not deep, texts of plain signs -/
def okD : Nat → D → Bool
  | _, .non => true
  | _, .bl _ => true
  | _, .int _ => true
  | _, .str t => t.all (· < 0x110000)
  | n + 1, .lst xs => okDs n xs
  | n + 1, .clst xs => okDs n xs
  | n + 1, .tup xs => okDs n xs
  | n + 1, .ctup xs => okDs n xs
  | _, _ => false
def okDs : Nat → List D → Bool
  | _, [] => true
  | n, x :: xs => okD n x && okDs n xs
end
mutual
/-- == by data -/
def deq : D → D → Bool
  | .non, .non => true
  | .bl a, .bl b => a == b
  | .bl a, .int j => (if a then 1 else 0) == j
  | .int i, .bl b => i == (if b then 1 else 0)
  | .int i, .int j => i == j
  | .str a, .str b => a == b
  | .lst xs, .lst ys => deqs xs ys
  | .lst xs, .clst ys => deqs xs ys
  | .clst xs, .lst ys => deqs xs ys
  | .clst xs, .clst ys => deqs xs ys
  | .tup xs, .tup ys => deqs xs ys
  | .tup xs, .ctup ys => deqs xs ys
  | .ctup xs, .tup ys => deqs xs ys
  | .ctup xs, .ctup ys => deqs xs ys
  | _, _ => false
def deqs : List D → List D → Bool
  | [], [] => true
  | x :: xs, y :: ys => deq x y && deqs xs ys
  | _, _ => false
end
mutual
theorem okD_py : ∀ (n : Nat) (d : D), okD n d = true → ∃ p, toPy d = some p ∧ p.canLay0 = true ∧ p.depth ≤ n
  | _, .non, _ => ⟨_, rfl, rfl, by simp [PyData.depth]⟩
  | _, .bl _, _ => ⟨_, rfl, rfl, by simp [PyData.depth]⟩
  | _, .int _, _ => ⟨_, rfl, rfl, by simp [PyData.depth]⟩
  | _, .str t, h => ⟨_, rfl, by
    show (t.toArray).all (· < 0x110000) = true
    rw [List.all_toArray]
    simpa [okD] using h, by simp [PyData.depth]⟩
  | n + 1, .lst xs, h => by
    obtain ⟨ps, e, h1, h2⟩ := okDs_py n xs (by simpa [okD] using h)
    exact ⟨.list ps, by simp [toPy, e], by simpa [PyData.canLay0] using h1, by simp [PyData.depth]; omega⟩
  | n + 1, .clst xs, h => by
    obtain ⟨ps, e, h1, h2⟩ := okDs_py n xs (by simpa [okD] using h)
    exact ⟨.list ps, by simp [toPy, e], by simpa [PyData.canLay0] using h1, by simp [PyData.depth]; omega⟩
  | n + 1, .tup xs, h => by
    obtain ⟨ps, e, h1, h2⟩ := okDs_py n xs (by simpa [okD] using h)
    exact ⟨.tuple ps, by simp [toPy, e], by simpa [PyData.canLay0] using h1, by simp [PyData.depth]; omega⟩
  | n + 1, .ctup xs, h => by
    obtain ⟨ps, e, h1, h2⟩ := okDs_py n xs (by simpa [okD] using h)
    exact ⟨.tuple ps, by simp [toPy, e], by simpa [PyData.canLay0] using h1, by simp [PyData.depth]; omega⟩
  | _, .dk _, h => by simp [okD] at h
  | _, .dt _, h => by simp [okD] at h
  | 0, .lst _, h => by simp [okD] at h
  | 0, .clst _, h => by simp [okD] at h
  | 0, .tup _, h => by simp [okD] at h
  | 0, .ctup _, h => by simp [okD] at h
theorem okDs_py : ∀ (n : Nat) (ds : List D), okDs n ds = true → ∃ ps, toPys ds = some ps ∧ PyData.canLayAll0 ps = true ∧ PyData.depthAll ps ≤ n
  | n, [], _ => ⟨[], rfl, rfl, by simp [PyData.depthAll]⟩
  | n, d :: ds, h => by
    have h' := Bool.and_eq_true_iff.mp (show (okD n d && okDs n ds) = true by simpa [okDs] using h)
    obtain ⟨p, e, h1, h2⟩ := okD_py n d h'.1
    obtain ⟨ps, e', h3, h4⟩ := okDs_py n ds h'.2
    exact ⟨p :: ps, by simp [toPys, e, e'], by simp [PyData.canLayAll0, h1, h3], by simp [PyData.depthAll]; omega⟩
end
theorem tS_beq (a b : List Nat) : ((tS a : Str) == tS b) = (a == b) := by
  by_cases h : a = b
  · subst h
    simp
  · rw [beq_eq_false_iff_ne.mpr h, beq_eq_false_iff_ne.mpr fun z => h (tS_inj z)]
mutual
theorem deq_eqv : ∀ (d e : D) (p q : PyData), toPy d = some p → toPy e = some q → PyData.eqv p q = deq d e := fun d e p q hp hq => by
  cases d <;> cases e <;> simp only [toPy, Option.some.injEq, Option.map_eq_some_iff, reduceCtorEq] at hp hq <;>
    first
      | (subst hp; subst hq; simp [PyData.eqv, deq, tS_beq]; done)
      | (obtain ⟨ps, h1, rfl⟩ := hp; obtain ⟨qs, h2, rfl⟩ := hq; simp only [PyData.eqv, deq]; try exact deqs_eqv _ _ _ _ h1 h2)
      | (obtain ⟨ps, h1, rfl⟩ := hp; subst hq; simp [PyData.eqv, deq]; done)
      | (obtain ⟨ps, h1, rfl⟩ := hq; subst hp; simp [PyData.eqv, deq]; done)
theorem deqs_eqv : ∀ (ds es : List D) (ps qs : List PyData), toPys ds = some ps → toPys es = some qs → PyData.eqvAll ps qs = deqs ds es
  | [], [], _, _, hp, hq => by
    simp only [toPys, Option.some.injEq] at hp hq
    subst hp; subst hq
    rfl
  | [], e :: es, _, _, hp, hq => by
    simp only [toPys, Option.some.injEq, Option.bind_eq_some_iff, Option.map_eq_some_iff] at hp hq
    subst hp
    obtain ⟨q, _, qs, _, rfl⟩ := hq
    rfl
  | d :: ds, [], _, _, hp, hq => by
    simp only [toPys, Option.some.injEq, Option.bind_eq_some_iff, Option.map_eq_some_iff] at hp hq
    subst hq
    obtain ⟨q, _, qs, _, rfl⟩ := hp
    rfl
  | d :: ds, e :: es, _, _, hp, hq => by
    simp only [toPys, Option.bind_eq_some_iff, Option.map_eq_some_iff] at hp hq
    obtain ⟨p, h1, ps, h2, rfl⟩ := hp
    obtain ⟨q, h3, qs, h4, rfl⟩ := hq
    show (PyData.eqv p q && PyData.eqvAll ps qs) = (deq d e && deqs ds es)
    rw [deq_eqv d e p q h1 h3, deqs_eqv ds es ps qs h2 h4]
end
theorem ok_shaped {d : D} {p : PyData} (e : toPy d = some p) (h : okD 60 d = true) : SeqAt.shaped p = true := by
  obtain ⟨q, e2, h1, h2⟩ := okD_py 60 d h
  rw [e] at e2; cases e2
  unfold SeqAt.shaped
  rw [h1, decide_eq_true (by omega)]
  rfl
theorem eqD_ok {d e : D} (hd : okD 60 d = true) (he : okD 60 e = true) : eqD d e = some (deq d e) := by
  obtain ⟨p, e1, _, _⟩ := okD_py 60 d hd
  obtain ⟨q, e2, _, _⟩ := okD_py 60 e he
  unfold eqD
  rw [e1, e2]
  show (if _ then _ else _) = _
  rw [if_pos ⟨ok_shaped e1 hd, ok_shaped e2 he⟩, deq_eqv d e p q e1 e2]
theorem p_eq {d e : D} (hd : okD 60 d = true) (he : okD 60 e = true) : eqP d e = some (.sh (.bl (deq d e))) := by
  show (eqD d e).map _ = _
  rw [eqD_ok hd he]
  rfl
theorem p_ne {d e : D} (hd : okD 60 d = true) (he : okD 60 e = true) : neP d e = some (.sh (.bl (!(deq d e)))) := by
  show ((eqD d e).map _).map _ = _
  rw [eqD_ok hd he]
  rfl
theorem inD_ok {d : D} {es : List D} (hd : okD 60 d = true) (he : okDs 59 es = true) : inD d es = some (es.any fun e => deq e d) := by
  obtain ⟨p, e1, hp, _⟩ := okD_py 60 d hd
  obtain ⟨qs, e2, hq, hr⟩ := okDs_py 59 es he
  unfold inD
  rw [e1, e2]
  have e3 : toPy (.lst es) = some (.list qs) := by simp [toPy, e2]
  show (if _ then _ else _) = _
  rw [if_pos ⟨ok_shaped e1 hd, ok_shaped e3 (by simpa [okD] using he)⟩]
  congr 1
  clear e3 he hq hr
  induction es generalizing qs with
  | nil =>
    simp only [toPys, Option.some.injEq] at e2
    subst e2
    rfl
  | cons x xs ih =>
    simp only [toPys, Option.bind_eq_some_iff, Option.map_eq_some_iff] at e2
    obtain ⟨q, h3, qs, h4, rfl⟩ := e2
    rw [List.any_cons, List.any_cons, deq_eqv x d q p h3 e1, ih qs h4]
theorem p_in {d : D} {es : List D} (hd : okD 60 d = true) (he : okDs 59 es = true) : memP d (.lst es) = some (.sh (.bl (es.any fun e => deq e d))) := by
  show (inD d es).map _ = _
  rw [inD_ok hd he]
  rfl
theorem p_nin {d : D} {es : List D} (hd : okD 60 d = true) (he : okDs 59 es = true) : nmP d (.lst es) = some (.sh (.bl (!(es.any fun e => deq e d)))) := by
  show ((inD d es).map _).map _ = _
  rw [inD_ok hd he]
  rfl
theorem okDs_map {α : Type} {f : α → D} {n : Nat} : ∀ {xs : List α}, (∀ x ∈ xs, okD n (f x) = true) → okDs n (xs.map f) = true
  | [], _ => by simp [okDs]
  | x :: xs, h => by
    rw [List.map_cons, okDs, h x List.mem_cons_self, okDs_map fun y hy => h y (List.mem_cons_of_mem _ hy)]
    rfl
theorem deqs_map {α : Type} [DecidableEq α] {f : α → D} : ∀ {xs ys : List α}, (∀ x ∈ xs, ∀ y ∈ ys, deq (f x) (f y) = decide (x = y)) → deqs (xs.map f) (ys.map f) = decide (xs = ys)
  | [], [], _ => by simp [deqs]
  | [], _ :: _, _ => by simp [deqs]
  | _ :: _, [], _ => by simp [deqs]
  | x :: xs, y :: ys, h => by
    rw [List.map_cons, List.map_cons, deqs, h x List.mem_cons_self y List.mem_cons_self, deqs_map fun a ha b hb => h a (List.mem_cons_of_mem _ ha) b (List.mem_cons_of_mem _ hb)]
    simp [Bool.decide_and]
mutual
theorem deq_refl : ∀ (n : Nat) (d : D), okD n d = true → deq d d = true
  | _, .non, _ => rfl
  | _, .bl _, _ => by simp [deq]
  | _, .int _, _ => by simp [deq]
  | _, .str t, _ => by simp [deq]
  | n + 1, .lst xs, h => by
    rw [deq]
    exact deqs_refl n xs (by simpa [okD] using h)
  | n + 1, .clst xs, h => by
    rw [deq]
    exact deqs_refl n xs (by simpa [okD] using h)
  | n + 1, .tup xs, h => by
    rw [deq]
    exact deqs_refl n xs (by simpa [okD] using h)
  | n + 1, .ctup xs, h => by
    rw [deq]
    exact deqs_refl n xs (by simpa [okD] using h)
  | _, .dk _, h => by simp [okD] at h
  | _, .dt _, h => by simp [okD] at h
  | 0, .lst _, h => by simp [okD] at h
  | 0, .clst _, h => by simp [okD] at h
  | 0, .tup _, h => by simp [okD] at h
  | 0, .ctup _, h => by simp [okD] at h
theorem deqs_refl : ∀ (n : Nat) (ds : List D), okDs n ds = true → deqs ds ds = true
  | _, [], _ => rfl
  | n, d :: ds, h => by
    have h' := Bool.and_eq_true_iff.mp (show (okD n d && okDs n ds) = true by simpa [okDs] using h)
    rw [deqs, deq_refl n d h'.1, deqs_refl n ds h'.2]
    rfl
end
theorem ne_same {d : D} (h : okD 60 d = true) : neP d d = some (.sh (.bl false)) := by
  rw [p_ne h h, deq_refl 60 d h]
  rfl
theorem eq_same {d : D} (h : okD 60 d = true) : eqP d d = some (.sh (.bl true)) := by
  rw [p_eq h h, deq_refl 60 d h]
end
end QW

end
section
/-! small lemmas for reckoning -/
namespace QW
open PySem PySem.Spec L2
theorem Wp.noE {ε α : Type} {E E' : String → ε → Prop} {m : R ε α} {Q : α → Prop} (h : Wp E m Q) (hE : ∀ c e, ¬ E c e) : Wp E' m Q := by
  cases m <;> first | exact h | exact absurd h (hE _ _)
theorem Wp.imp {ε α : Type} {E E' : String → ε → Prop} {m : R ε α} {Q Q' : α → Prop} (h : Wp E m Q) (hE : ∀ c e, E c e → E' c e) (hQ : ∀ a, Q a → Q' a) : Wp E' m Q' := by
  cases m <;> first | exact h.elim | exact hQ _ h | exact hE _ _ h
/-- how many items a slot's list has -/
def slLen (i : Nat) (ρ : EnvQ) : Nat := match ρ[i]? with
  | some (Sl.ow _ (D.lst xs)) => xs.length
  | some (Sl.sh (D.lst xs)) => xs.length
  | _ => 0
def slInt (i : Nat) (ρ : EnvQ) : Int := match ρ[i]? with
  | some (Sl.sh (D.int n)) => n
  | _ => 0
end QW
namespace QL
open PySem PySem.Spec L2 QW
section
variable {α : Type} {x y z u : α} {xs : List α}
theorem ix_0 : atI (x :: xs) 0 = some x := by simp [atI, ixN]
theorem ix_1 : atI (x :: y :: xs) 1 = some y := by
  unfold atI ixN
  rw [if_pos (by decide), if_pos (by simp only [List.length_cons]; omega)]
  rfl
theorem ix_2 : atI (x :: y :: z :: xs) 2 = some z := by
  unfold atI ixN
  rw [if_pos (by decide), if_pos (by simp only [List.length_cons]; omega)]
  rfl
theorem ix_3 : atI (x :: y :: z :: u :: xs) 3 = some u := by
  unfold atI ixN
  rw [if_pos (by decide), if_pos (by simp only [List.length_cons]; omega)]
  rfl
end
/-- the drawn numbers' state -/
abbrev dr (a b m : Int) : D := .lst [.int a, .int b, .int m]
structure Good (a b m : Int) : Prop where
  a0 : 0 ≤ a
  a1 : a < 2 ^ 500
  b0 : 0 ≤ b
  b1 : b < 2 ^ 33
  m0 : 0 < m
  m1 : m < 2 ^ 32
section
variable {xs : List D} {i : Int} {v : D}
theorem g_lst : gixP (.lst xs) (.int i) = (atI xs i).map .sh := rfl
theorem g_tup : gixP (.tup xs) (.int i) = (atI xs i).map .sh := rfl
theorem g_clst : gixP (.clst xs) (.int i) = (atI xs i).map .sh := rfl
theorem g_ctup : gixP (.ctup xs) (.int i) = (atI xs i).map .sh := rfl
theorem s_lst : setM (.lst xs) [.int i, v] = (ixN xs.length i).map fun j => (.lst (xs.set j v), .non) := rfl
theorem rng_2 : rng 0 2 = [.int 0, .int 1] := rfl
theorem rng_4 : rng 0 4 = [.int 0, .int 1, .int 2, .int 3] := rfl
theorem ap_M {xs : List D} {x : D} {P : D × D → Prop} : atQ (appendM (.lst xs) [x]) P ↔ xs.length < 1000000 ∧ P (.lst (xs ++ [x]), .non) := by
  show atQ (if xs.length < 1000000 then some (.lst (xs ++ [x]), .non) else none) P ↔ _
  by_cases h : xs.length < 1000000 <;> simp [h, atQ]
theorem tu_l : tupleP [.lst xs] = some (.ow (.tup xs)) := rfl
theorem tu_t : tupleP [.tup xs] = some (.sh (.tup xs)) := rfl
theorem ld_l : listP [.lst xs] = some (.ow (.lst xs)) := rfl
theorem ld_t : listP [.tup xs] = some (.ow (.lst xs)) := rfl
theorem len_l : lenP [.lst xs] = some (.sh (.int xs.length)) := rfl
theorem len_t : lenP [.tup xs] = some (.sh (.int xs.length)) := rfl
theorem len_c : lenP [.clst xs] = some (.sh (.int xs.length)) := rfl
theorem len_ct : lenP [.ctup xs] = some (.sh (.int xs.length)) := rfl
theorem int_b {b : Bool} : intP [.bl b] = some (.sh (.int (if b then 1 else 0))) := rfl
theorem int_i : intP [.int i] = some (.sh (.int i)) := rfl
theorem as_e : Res.asS (.sh (dS "")) = some [] := rfl
theorem fr_un : Sl.free .un = true := rfl
theorem fr_sh {d : D} : Sl.free (.sh d) = true := rfl
theorem fr_ow {d : D} : Sl.free (.ow false d) = true := rfl
theorem n3_0 : ixN 3 0 = some 0 := rfl
theorem n3_1 : ixN 3 1 = some 1 := rfl
theorem n3_2 : ixN 3 2 = some 2 := rfl
end
theorem lg {i j : Int} {n k : Nat} (hi : i.natAbs < 2 ^ n) (hj : j.natAbs < 2 ^ k) (h : n + k ≤ 1000000) (h0 : 0 < n) (h1 : 0 < k) : i.natAbs.log2 + j.natAbs.log2 < 1000000 := by
  have a : i.natAbs.log2 < n := by
    by_cases z : i.natAbs = 0
    · rw [z]; simpa using h0
    · exact (Nat.log2_lt z).mpr hi
  have b : j.natAbs.log2 < k := by
    by_cases z : j.natAbs = 0
    · rw [z]; simpa using h1
    · exact (Nat.log2_lt z).mpr hj
  omega
theorem lg1 {i : Int} {n : Nat} (hi : i.natAbs < 2 ^ n) (h : n ≤ 9000) (h0 : 0 < n) : i.natAbs.log2 < 9000 := by
  by_cases z : i.natAbs = 0
  · rw [z]; decide
  · exact Nat.lt_of_lt_of_le ((Nat.log2_lt z).mpr hi) h
theorem store_gen {i : Nat} {s s0 : Sl} {ρ : EnvQ} {QS : Fl → Prop} (h : s0.free = true) : storeQ i s ρ QS (some s0) ↔ QS (.nx (ρ.set i s)) := by simp [storeQ, h]

section
variable {α : Type} {E : String → EnvQ → Prop}
/-- a comprehension with a test that changes nothing -/
theorem lc_filt {j : Nat} {ct : CB} {fa : CE1} {ρ : EnvQ} {f g : α → D} {p : α → Bool} (hj : ρ.set j .un = ρ) : ∀ xs : List α, (∀ x ∈ xs, Wp N0 (ct (ρ.set j (.sh (f x)))) fun b => b = (p x, ρ.set j (.sh (f x))) ∧ (p x = true → Wp N0 (fa (ρ.set j (.sh (f x)))) fun r => r.1.own = some (g x) ∧ r.2 = ρ.set j (.sh (f x)))) → Wp E (loopLc j ct fa (xs.map f) ρ) fun r => r = ((xs.filter p).map g, ρ)
  | [], _ => rfl
  | x :: xs, h => by
    rw [List.map_cons, lc_cons]
    refine (h x List.mem_cons_self).monoE fun b hb => ?_
    obtain ⟨rfl, hx⟩ := hb
    have ih := lc_filt hj xs fun y hy => h y (List.mem_cons_of_mem _ hy)
    cases hp : p x with
    | true =>
      rw [List.filter_cons_of_pos hp]
      simp only [if_true]
      refine (hx hp).mono fun r hr => ?_
      rw [hr.1, hr.2, List.set_set, hj]
      refine ih.monoE fun r hr => ?_
      subst hr
      rfl
    | false =>
      rw [List.filter_cons_of_neg (by rw [hp]; decide)]
      simp only [Bool.false_eq_true, if_false]
      rw [List.set_set, hj]
      exact ih
theorem lc_map {j : Nat} {fa : CE1} {ρ : EnvQ} {f g : α → D} (hj : ρ.set j .un = ρ) (xs : List α) (h : ∀ x ∈ xs, Wp N0 (fa (ρ.set j (.sh (f x)))) fun r => r.1.own = some (g x) ∧ r.2 = ρ.set j (.sh (f x))) : Wp E (loopLc j bYes fa (xs.map f) ρ) fun r => r = (xs.map g, ρ) := by
  have := lc_filt (E := E) (ct := bYes) (p := fun _ => true) hj xs fun x hx => (wb_yes.mpr ⟨rfl, fun _ => h x hx⟩ : Wp N0 (bYes (ρ.set j (.sh (f x)))) _)
  rwa [List.filter_eq_self.mpr fun _ _ => rfl] at this
end

section
variable {α : Type} {xs : List α} {i j : Int}
theorem six_some {n d : Nat} (h : 0 ≤ i) : HT.sIx n d (some i) = min i.toNat n := if_neg (by omega)
theorem six_neg {n d : Nat} (h : i < 0) : HT.sIx n d (some i) = (i + n).toNat := if_pos h
theorem six_none {n d : Nat} : HT.sIx n d none = d := rfl
theorem cut_to (h : 0 ≤ i) : cutD xs none (some i) = xs.take i.toNat := by
  unfold cutD
  rw [six_none, six_some h, List.drop_zero, Nat.sub_zero]
  by_cases z : i.toNat ≤ xs.length
  · rw [Nat.min_eq_left z]
  · rw [Nat.min_eq_right (by omega), List.take_of_length_le (Nat.le_refl _), List.take_of_length_le (by omega)]
theorem cut_from (h : 0 ≤ i) : cutD xs (some i) none = xs.drop i.toNat := by
  unfold cutD
  rw [six_none, six_some h]
  by_cases z : i.toNat ≤ xs.length
  · rw [Nat.min_eq_left z, List.take_of_length_le (by rw [List.length_drop]; omega)]
  · rw [Nat.min_eq_right (by omega), List.drop_of_length_le (Nat.le_refl _), List.drop_of_length_le (by omega)]
    simp
theorem cut_mid (h : 0 ≤ i) (g : 0 ≤ j) : cutD xs (some i) (some j) = (xs.drop i.toNat).take (j.toNat - i.toNat) := by
  unfold cutD
  rw [six_some h, six_some g]
  by_cases z : i.toNat ≤ xs.length
  · rw [Nat.min_eq_left z]
    by_cases y : j.toNat ≤ xs.length
    · rw [Nat.min_eq_left y]
    · rw [Nat.min_eq_right (show xs.length ≤ j.toNat by omega), List.take_of_length_le (by rw [List.length_drop]; omega), List.take_of_length_le (by rw [List.length_drop]; omega)]
  · rw [Nat.min_eq_right (show xs.length ≤ i.toNat by omega), List.drop_of_length_le (Nat.le_refl _), List.drop_of_length_le (show xs.length ≤ i.toNat by omega)]
    simp
theorem cut_back (h : 1 ≤ xs.length) : cutD xs none (some (-1)) = xs.dropLast := by
  unfold cutD
  rw [six_none, six_neg (by decide), List.drop_zero, Nat.sub_zero, List.dropLast_eq_take]
  congr 1
  omega
theorem ati_nat (h : 0 ≤ i) (g : i < xs.length) : ∃ x, xs[i.toNat]? = some x ∧ atI xs i = some x := by
  have hn : i.toNat < xs.length := by omega
  refine ⟨xs[i.toNat], List.getElem?_eq_getElem hn, ?_⟩
  unfold atI ixN
  rw [if_pos h, if_pos g]
  exact List.getElem?_eq_getElem hn
theorem ati_get {k : Nat} {x : α} (h : xs[k]? = some x) : atI xs (k : Int) = some x := by
  have hk := (List.getElem?_eq_some_iff.mp h).1
  unfold atI ixN
  rw [if_pos (by omega), if_pos (by omega)]
  exact h
theorem ati_last (h : xs ≠ []) : atI xs (-1) = some (xs.getLast h) := by
  have hl := List.length_pos_iff.mpr h
  unfold atI ixN
  rw [if_neg (by decide), if_pos (by omega)]
  show xs[((-1 : Int) + xs.length).toNat]? = _
  rw [show ((-1 : Int) + xs.length).toNat = xs.length - 1 by omega, ← List.getLast?_eq_getElem?, List.getLast?_eq_some_getLast h]
theorem ati_map {β : Type} {f : α → β} : atI (xs.map f) i = (atI xs i).map f := by
  unfold atI
  rw [List.length_map]
  cases ixN xs.length i with
  | none => rfl
  | some k => exact List.getElem?_map ..
end
theorem ds_e : dS "" = .str [] := rfl
theorem ds_l : dS "l" = .str [108] := rfl
theorem ds_r : dS "r" = .str [114] := rfl
theorem ds_lr : dS "lr" = .str [108, 114] := rfl
theorem ds_u : dS "u" = .str [117] := rfl
theorem ds_v : dS "v" = .str [118] := rfl
theorem ds_U : dS "U" = .str [85] := rfl
theorem ds_V : dS "V" = .str [86] := rfl
theorem ds_uv : dS "uv" = .str [117, 118] := rfl
theorem ds_uvUV : dS "uvUV" = .str [117, 118, 85, 86] := rfl
theorem ds_mi : dS "-" = .str [45] := rfl
theorem ds_n0 : dS "0" = .str [48] := rfl
theorem ds_n1 : dS "1" = .str [49] := rfl
theorem ds_co : dS "," = .str [44] := rfl
theorem ds_sl : dS "/" = .str [47] := rfl
theorem ds_bl : dS " " = .str [32] := rfl
theorem ds_rr : dS "rr" = .str [114, 114] := rfl
theorem ds_rrr : dS "rrr" = .str [114, 114, 114] := rfl
theorem ds_ll : dS "ll" = .str [108, 108] := rfl
theorem as_str {t : List Nat} : Res.asS (.sh (.str t)) = some t := rfl
end QL

end
section
/-! a list of one's own walked, changed later; [::-1] -/
namespace QW
open PySem PySem.Spec L2
/-- what is in a slot of one's own -/
def heldL (xs : List D) : Option Sl → Prop
  | some (.ow _ (.lst ys)) => ys = xs
  | _ => False
open Classical in
noncomputable def keep {α : Type} (s : Nat) (xs : List D) (f : EnvQ → R (List Sl) (α × EnvQ)) : EnvQ → R (List Sl) (α × EnvQ) := fun ρ => (f ρ).bind fun a => if heldL xs a.2[s]? then .ok a else .stuck
/-- the walk of a slot's list, whatever it is by then -/
noncomputable def eCompO (s j : Nat) (ct : CB) (fe : CE1) : CE1 := fun ρ => match ρ[s]? with
  | some (.ow _ (.lst xs)) => eComp j (fun ρ => .ok (xs, ρ)) (keep s xs ct) (keep s xs fe) ρ
  | some (.sh d) => eComp j (iSeq (eName s)) ct fe ρ
  | _ => .stuck
theorem keep_st {α : Type} {s : Nat} {xs : List D} {f : EnvQ → R (List Sl) (α × EnvQ)} {ρ : EnvQ} (h : f ρ = .stuck) : keep s xs f ρ = .stuck := by
  unfold keep; rw [h]; rfl
theorem keep_exc {α : Type} {s : Nat} {xs : List D} {f : EnvQ → R (List Sl) (α × EnvQ)} {ρ ρ' : EnvQ} {c : String} (h : f ρ = .exc c ρ') : keep s xs f ρ = .exc c ρ' := by
  unfold keep; rw [h]; rfl
open Classical in
theorem keep_ok {α : Type} {s : Nat} {xs : List D} {f : EnvQ → R (List Sl) (α × EnvQ)} {ρ : EnvQ} {a : α × EnvQ} (h : f ρ = .ok a) : (keep s xs f ρ = .ok a ∧ heldL xs a.2[s]?) ∨ keep s xs f ρ = .stuck := by
  unfold keep
  rw [h]
  show ((if heldL xs a.2[s]? then R.ok a else R.stuck) = R.ok a ∧ _) ∨ (if heldL xs a.2[s]? then R.ok a else R.stuck) = R.stuck
  by_cases q : heldL xs a.2[s]?
  · exact .inl ⟨if_pos q, q⟩
  · exact .inr (if_neg q)
theorem held_set {s j : Nat} {xs : List D} {ρ : EnvQ} {z : Sl} (hsj : j ≠ s) (h : ∃ l, ρ[s]? = some (.ow l (.lst xs))) : heldL xs (ρ.set j z)[s]? := by
  obtain ⟨l, e⟩ := h
  rw [List.getElem?_set_ne hsj, e]
  exact rfl
theorem heldL.get {xs : List D} {o : Option Sl} (h : heldL xs o) : ∃ l, o = some (.ow l (.lst xs)) := by
  unfold heldL at h
  split at h
  · subst h; exact ⟨_, rfl⟩
  · exact h.elim
section
variable {K : PySem.W.Frag} {L : Nat → Option Addr} {ll : LK} {S S' : Hp} {ρ ρ' : EnvQ} {σ : St} {H H' : Hp} {a : Addr} {xs items : List D} {vs : List V} {s j : Nat}
theorem SqL.of_rd (h : H a = some (.lst vs)) : SqL K H a vs := .inl (.inl h)
theorem own_walk0 (r : RR K L ll S ρ σ H) (hs : ∃ l, ρ[s]? = some (.ow l (.lst items))) (e : σ[s]? = some (some (.ref a))) :
    (∀ (i : Nat) d, items[i]? = some d → (Itl K a).go i H ∧ ∀ x H'', (Itl K a).yld i H x H'' → YldOk K S H d x H'') ∧ (Itl K a).stop items.length H := by
  obtain ⟨l, hs⟩ := hs
  obtain ⟨b, e1, _, ob, _⟩ := r.ow s l _ hs
  rw [e] at e1
  cases e1
  obtain ⟨vs, hl, hr⟩ := ob
  have hl : SqL K H a vs := SqL.of_rd hl
  refine ⟨fun i d ed => ?_, vs, hl, by rw [hr.length]; exact Nat.le_refl _⟩
  obtain ⟨w, ew, rw'⟩ := hr.get ed
  exact ⟨⟨vs, w, hl, ew⟩, fun x H'' y => .inl ⟨y.1, by
    have := y.2 vs hl
    rw [ew] at this
    cases this
    exact rw'⟩⟩
theorem own_walk (hsj : j ≠ s) (e : σ[s]? = some (some (.ref a))) (r : RR K L ll S ρ (σ.set j none) H) (h : heldL items ρ[s]?) :
    (∀ (i : Nat) d, items[i]? = some d → (Itl K a).go i H ∧ ∀ x H'', (Itl K a).yld i H x H'' → YldOk K S H d x H'') ∧ (Itl K a).stop items.length H :=
  own_walk0 r h.get (by rw [List.getElem?_set_ne hsj]; exact e)
end
section
variable {X : Cx} {W : WX} {L : Nat → Option Addr} {elt tg iter e : Expr} {ifs : List Expr} {pos : Pos} {fe : CE1} {fi : CI} {ct : CB}
theorem rd_list {σ : St} {H : Hp} {Q : It → Hp → Prop} {s : Nat} (h : rdI X W L (iSeq (eName s)) σ H Q) : iList X.K (tVar s) σ H Q := by
  obtain ⟨ll, S, ρ, rr, g⟩ := h
  unfold iSeq eName at g
  cases e1 : ρ[s]? with
  | none => simp only [e1] at g; exact g.elim
  | some z =>
    cases z with
    | un => simp only [e1] at g; exact g.elim
    | ow l d => simp only [e1] at g; exact g.elim
    | sh d =>
      simp only [e1] at g
      obtain ⟨v, e2, rp⟩ := rr.sh s d e1
      cases rp <;> first | exact g.elim | skip
      rename_i a vs xs hl0 hs
      have hl : SqL X.K S a vs := .inl (.inl hl0)
      refine ⟨_, e2, a, rfl, ⟨vs, rr.sub.l hl⟩, g S _ H rr Tr.refl fun S' H' ex sub _ => ⟨fun i d ed => ?_, vs, sub.l ((Sub.of_ex ex).l hl), by rw [hs.length]; exact Nat.le_refl _⟩⟩
      obtain ⟨w, ew, rw'⟩ := hs.get ed
      have hl' := sub.l ((Sub.of_ex ex).l hl)
      exact ⟨⟨vs, w, hl', ew⟩, fun x H'' y => .inl ⟨y.1, by
        have := y.2 vs hl'
        rw [ew] at this
        cases this
        exact rw'.mono (Sub.of_ex ex)⟩⟩
theorem comp_goO {s j : Nat} {vs : List Nat} (hvs : vs = [j]) {σ : St} {H : Hp} {Q : VK} (X' : Shared → Hp → Addr → List (Str × Addr) → List Addr → Cx) (h : rdE X W L (eCompO s j ct fe) σ H Q) :
    tLc (iList X.K (tVar s)) (gName j) (fun σ H Q => ∃ ll S ρ, RR X.K L ll S ρ σ H ∧ GoB { X with xe := fun _ _ => False } W0 L ll S ρ σ H (ct ρ) Q) (fun σ H Q => ∃ ll S ρ, RR X.K L ll S ρ σ H ∧ GoE { X with xe := fun _ _ => False } W0 L ll S ρ σ H (fe ρ) Q) vs σ H Q := by
  obtain ⟨ll, S, ρ, rr, g⟩ := h
  unfold eCompO at g
  cases e0 : ρ[s]? with
  | none => simp only [e0] at g; exact g.elim
  | some z =>
    cases z with
    | un => simp only [e0] at g; exact g.elim
    | sh d =>
      simp only [e0] at g
      exact rd_list (comp_go hvs X' ⟨ll, S, ρ, rr, g⟩)
    | ow l d =>
    cases d <;> simp only [e0] at g <;> first | exact g.elim | skip
    rename_i items
    subst hvs
    obtain ⟨a, hsσ, _, ⟨vs0, ea, _⟩, _⟩ := rr.ow s l _ e0
    have hs := e0
    refine ⟨_, hsσ, a, rfl, ⟨_, SqL.of_rd ea⟩, fun Dl hD => ?_⟩
    have TT : Tr S ρ σ H S ρ σ H := Tr.refl
    unfold eComp R.bind at g
    dsimp only at g
    have SD : S Dl = none := Classical.byContradiction fun n => rr.there n hD
    cases e2 : ρ[j]? with
    | none => rw [e2] at g; exact g.elim
    | some s0 =>
      rw [e2] at g
      dsimp only at g
      obtain ⟨⟨hp, hlen⟩, g⟩ := ite_go g
      have hsj : j ≠ s := fun z => by
        subst z
        rw [e0] at e2
        cases e2
        exact absurd (show false = true from hp) Bool.false_ne_true
      have hj : j < ρ.length := (List.getElem?_eq_some_iff.mp e2).1
      have hjσ : j < σ.length := by rw [← rr.len]; exact hj
      have hL : L j = none := by
        cases e3 : L j with
        | none => rfl
        | some a =>
          obtain ⟨d, p⟩ := rr.ln j a e3
          rw [e2] at p
          cases p
          exact absurd (show false = true from hp) Bool.false_ne_true
      have hwp : wipe σ [j] = σ.set j none := rfl
      have hs0 : ∀ {T : Hp}, Evl.Ex S T → ∀ d, s0 = .sh d → ∃ v, σ[j]? = some (some v) ∧ Rep X.K T d v := fun ex d z => by
        subst z
        obtain ⟨v, p, q⟩ := rr.sh j d e2
        exact ⟨v, p, q.mono (Sub.of_ex ex)⟩
      have hsame : ρ.set j s0 = ρ := by
        apply List.ext_getElem?
        intro k
        by_cases z : k = j
        · subst z
          rw [List.getElem?_set_self hj, e2]
        · rw [List.getElem?_set_ne (Ne.symm z)]
      refine ⟨fun i m H' => m = items.length - i ∧ i ≤ items.length ∧ ∃ S' ρ' ws acc, RR X.K L ll S' ρ' (σ.set j none) H' ∧ heldL items ρ'[s]? ∧ ρ'[j]? = some .un ∧ Tr S ρ σ H S' (ρ'.set j s0) σ H' ∧ Evl.Ex S S' ∧ H' Dl = some (.lst ws) ∧ Reps X.K S' acc ws ∧ acc.length ≤ i ∧ S' Dl = none ∧
        (¬ OwnA ρ' (σ.set j none) Dl) ∧ GoE X W L ll S ρ σ H ((loopLc j (keep s items ct) (keep s items fe) (items.drop i) ρ').bind fun r => .ok (.ow (.lst (acc ++ r.1)), r.2.set j s0)) Q, ⟨items.length, by simp, Nat.zero_le _, S, ρ.set j .un, [], [], ?_, held_set hsj ⟨_, e0⟩, ?_, ?_, Evl.Ex.refl _, upd_same, .nil, Nat.zero_le _, SD, ?_, ?_⟩, ?_⟩
      · exact (rr.drop hL).alloc hD
      · exact List.getElem?_set_self hj
      · rw [List.set_set, hsame]
        exact TT.alloc hD
      · intro z
        obtain ⟨o, eo⟩ := (rr.drop hL).ownH z
        rw [hD] at eo; cases eo
      · simp only [List.nil_append, List.drop_zero]
        exact g
      rintro i m H' ⟨rfl, hi', S', ρ', ws, acc, r', hho, hun, t', ex, eD, hacc, hal, sD, noD, g⟩
      obtain ⟨wi, wst⟩ := own_walk hsj hsσ r' hho
      have HD0 : H Dl = none := TT.back hD
      by_cases hlt : i < items.length
      · have ed : items[i]? = some items[i] := List.getElem?_eq_getElem hlt
        obtain ⟨go, yl⟩ := wi i _ ed
        rw [List.drop_eq_getElem_cons hlt] at g
        unfold loopLc at g
        refine .inr ⟨go, fun H2 => ∃ S' ρ' ws acc, RR X.K L ll S' ρ' (σ.set j none) H2 ∧ heldL items ρ'[s]? ∧ ρ'[j]? = some .un ∧ Tr S ρ σ H S' (ρ'.set j s0) σ H2 ∧ Evl.Ex S S' ∧ H2 Dl = some (.lst ws) ∧ Reps X.K S' acc ws ∧ acc.length ≤ i + 1 ∧ S' Dl = none ∧
          (¬ OwnA ρ' (σ.set j none) Dl) ∧ GoE X W L ll S ρ σ H ((loopLc j (keep s items ct) (keep s items fe) (items.drop (i + 1)) ρ').bind fun r => .ok (.ow (.lst (acc ++ r.1)), r.2.set j s0)) Q, fun H2 z => ⟨items.length - (i + 1), by omega, rfl, hlt, z⟩, fun x H2 y => ?_⟩
        obtain ⟨S2, r2, t2, rp⟩ := yld_rep r' (yl x H2 y)
        have hD2 : H2 Dl = some (.lst ws) := t2.fr _ _ eD noD
        have r3 := r2.store (i := j) (s := .sh items[i]) (v := x) ⟨.un, hun, rfl⟩ rfl (fun d z => by cases z; exact rp) (fun _ _ z => nomatch z)
        show wipe ((wipe σ [j]).set j (some x)) [j] = wipe σ [j] ∧ _
        refine ⟨by rw [hwp]; show ((σ.set j none).set j (some x)).set j none = σ.set j none; rw [List.set_set, List.set_set], ll, S2, ρ'.set j (.sh items[i]), r3, ?_⟩
        have hlen' : ρ'.length = σ.length := by have := r'.len; simpa using this
        have no3 : ¬ OwnA (ρ'.set j (.sh items[i])) ((σ.set j none).set j (some x)) Dl := fun ⟨k, l, e, h1, h2⟩ => by
          by_cases z : k = j
          · subst z
            rw [List.getElem?_set_self (by rw [hlen']; exact hjσ)] at h1
            cases h1
          · rw [List.getElem?_set_ne (Ne.symm z)] at h1
            rw [List.getElem?_set_ne (Ne.symm z)] at h2
            exact noD ⟨k, l, e, h1, h2⟩
        have t2' : Tr S ρ σ H S2 (ρ'.set j s0) σ H2 := by
          refine t'.trans ?_
          refine ⟨t2.ex, fun a o e n => t2.fr a o e fun z => ?_, fun a z => .inl z, fun a z => (t2.ns a z).imp (fun z => z) fun z => z.imp (fun z => ?_) fun z => z, t2.dm⟩
          all_goals
            obtain ⟨k, l, e', h1, h2⟩ := z
            have hk : k ≠ j := fun z => by
              subst z
              rw [hun] at h1; cases h1
            rw [List.getElem?_set_ne (Ne.symm hk)] at h2
          · exact n ⟨k, l, e', by rw [List.getElem?_set_ne (Ne.symm hk)]; exact h1, h2⟩
          · exact ⟨k, l, e', by rw [List.getElem?_set_ne (Ne.symm hk)]; exact h1, h2⟩
        have sD2 : S2 Dl = none := Classical.byContradiction fun n => (t2.ns Dl n).elim (fun z => z sD) fun z => z.elim noD fun z => by rw [eD] at z; cases z
        -- the test
        cases ec : ct (ρ'.set j (.sh items[i])) with
        | stuck => rw [keep_st ec] at g; exact g
        | exc c ρ5 => rw [keep_exc ec] at g; exact g.elim
        | ok b =>
          obtain ⟨b, ρ4⟩ := b
          rcases keep_ok (s := s) (xs := items) ec with ⟨kc, hk4⟩ | kc
          case inr => rw [kc] at g; exact g.elim
          rw [kc] at g
          intro S4 H4 r4 t4
          have hD4 : H4 Dl = some (.lst ws) := t4.fr _ _ hD2 no3
          have no4 : ¬ OwnA ρ4 ((σ.set j none).set j (some x)) Dl := fun z => (t4.nw Dl z).elim no3 fun z => by rw [hD2] at z; cases z
          have sD4 : S4 Dl = none := Classical.byContradiction fun n => (t4.ns Dl n).elim (fun z => z sD2) fun z => z.elim no3 fun z => by rw [hD2] at z; cases z
          have hl4 : ρ4.length = σ.length := by have := r4.len; simpa [wipe] using this
          -- a turn's end
          have fin : ∀ {S5 ρ5 H5}, RR X.K L ll S5 ρ5 ((σ.set j none).set j (some x)) H5 → Tr S2 (ρ'.set j (.sh items[i])) ((σ.set j none).set j (some x)) H2 S5 ρ5 ((σ.set j none).set j (some x)) H5 →
              RR X.K L ll S5 (ρ5.set j .un) (σ.set j none) H5 ∧ (ρ5.set j .un)[j]? = some .un ∧ Tr S ρ σ H S5 ((ρ5.set j .un).set j s0) σ H5 ∧ ¬ OwnA (ρ5.set j .un) (σ.set j none) Dl := fun {S5 ρ5 H5} r5 t5 => by
            have hl5 : ρ5.length = σ.length := by have := r5.len; simpa using this
            have q1 := r5.drop hL
            rw [List.set_set, List.set_set] at q1
            refine ⟨q1, List.getElem?_set_self (by rw [hl5]; exact hjσ), t2'.trans (t5.turn hp hlen' hl5), fun z => ?_⟩
            obtain ⟨k, l, e', h1, h2⟩ := z
            have hk : k ≠ j := fun z => by
              subst z
              rw [List.getElem?_set_self (by rw [hl5]; exact hjσ)] at h1
              cases h1
            rw [List.getElem?_set_ne (Ne.symm hk)] at h1
            have : OwnA ρ5 ((σ.set j none).set j (some x)) Dl := ⟨k, l, e', h1, by rw [List.getElem?_set_ne (Ne.symm hk)]; exact h2⟩
            rcases t5.nw Dl this with z | z
            · exact no3 z
            · rw [hD2] at z; cases z
          cases b with
          | false =>
            refine iteF ?_
            obtain ⟨f1, f2, f3, f4⟩ := fin r4 t4
            exact ⟨S4, ρ4.set j .un, ws, acc, f1, held_set hsj hk4.get, f2, f3, (ex.trans t2.ex).trans t4.ex, hD4, Reps.mono (Sub.of_ex (t2.ex.trans t4.ex)) hacc, Nat.le_succ_of_le hal, sD4, f4, g⟩
          | true =>
            refine iteT ⟨ll, S4, ρ4, r4, ?_⟩
            unfold R.bind noX at g
            dsimp only at g
            rw [if_pos rfl] at g
            cases ee : fe ρ4 with
            | stuck => rw [keep_st ee] at g; exact g
            | exc c ρ5 => rw [keep_exc ee] at g; exact g.elim
            | ok z =>
              obtain ⟨rx, ρ5⟩ := z
              rcases keep_ok (s := s) (xs := items) ee with ⟨ke, hk5⟩ | ke
              case inr => rw [ke] at g; exact g.elim
              rw [ke] at g
              dsimp only at g
              intro S5 v5 H5 r5 t5 q5
              cases eo : rx.own with
              | none => rw [eo] at g; exact g.elim
              | some dx =>
                rw [eo] at g
                have t45 := t4.trans t5
                obtain ⟨S6, r6, t6, hd6⟩ := own_rep r5 t5 q5 eo
                have t46 := t4.trans t6
                have hD5 : H5 Dl = some (.lst ws) := t5.fr _ _ hD4 no4
                obtain ⟨f1, f2, f3, f4⟩ := fin r6 t46
                have sD6 : S6 Dl = none := Classical.byContradiction fun n => (t6.ns Dl n).elim (fun z => z sD4) fun z => z.elim no4 fun z => by rw [hD4] at z; cases z
                have ex6 : Evl.Ex S' S6 := t2.ex.trans (t4.ex.trans t6.ex)
                refine ⟨ws, hD5, by rw [← hacc.length]; exact Nat.lt_of_le_of_lt hal (Nat.lt_of_lt_of_le (Nat.lt_of_lt_of_le hlt hlen) (by decide)), S6, ρ5.set j .un, ws ++ [v5], acc ++ [dx], f1.upd sD6 f4, held_set hsj hk5.get, f2, f3.upd HD0, ex.trans ex6, upd_same, (Reps.mono (Sub.of_ex ex6) hacc).append (.cons hd6 .nil), by simp; exact hal, sD6, f4, ?_⟩
                unfold opt at g
                dsimp only at g
                cases el : loopLc j (keep s items ct) (keep s items fe) (List.drop (i + 1) items) (ρ5.set j .un) with
                | stuck => rw [el] at g; exact g
                | exc c ρ9 => rw [el] at g; exact g
                | ok z =>
                  rw [el] at g
                  show GoE X W L ll S ρ σ H (.ok (.ow (.lst ((acc ++ [dx]) ++ z.1)), z.2.set j s0)) Q
                  rw [List.append_assoc]
                  exact g
      · have : i = items.length := by omega
        subst this
        rw [List.drop_length] at g
        refine .inl ⟨wst, ?_⟩
        have g : GoE X W L ll S ρ σ H (.ok (.ow (.lst (acc ++ [])), ρ'.set j s0)) Q := g
        rw [List.append_nil] at g
        refine g S' (.ref Dl) H' (r'.undrop hp (hs0 ex) hL) t' ⟨Dl, rfl, sD, ⟨ws, eD, hacc⟩, fun z => ?_, HD0⟩
        obtain ⟨k, l, e', h1, h2⟩ := z
        have hl' : ρ'.length = σ.length := by have := r'.len; simpa using this
        by_cases z : k = j
        · subst z
          rw [List.getElem?_set_self (by rw [hl']; exact hjσ)] at h1
          cases h1
          exact absurd (show false = true from hp) Bool.false_ne_true
        · rw [List.getElem?_set_ne (Ne.symm z)] at h1
          exact noD ⟨k, l, e', h1, by rw [List.getElem?_set_ne (Ne.symm z)]; exact h2⟩
end
end QW

end
section
/-! comprehensions over one's own list; [::-1] -/
namespace QW
open PySem PySem.Spec PyProof.Rows L2
section
variable {X : Cx} {W : WX} {L : Nat → Option Addr} {elt tg iter e a : Expr} {ifs : List Expr} {pos : Pos} {fe fa : CE1} {fi : CI} {ct : CB}
theorem v_compO {s j : Nat} {x z : Str} {p pz : Pos} {scope : Scope} (hc : X.calm = true) (hN : X.N.Nodup) (ok : blkC X.N X.env.scope scope [(x, j)] = true)
    (ht : ∀ (s : Shared) (H : Hp) (C : Addr) (cl : List (Str × Addr)) (fp : List Addr), VTs (X.blk s H scope (compEnvC scope cl C X.env) fp) W0 L ifs ct)
    (he : ∀ (s : Shared) (H : Hp) (C : Addr) (cl : List (Str × Addr)) (fp : List Addr), VE (X.blk s H scope (compEnvC scope cl C X.env) fp) W0 L elt fe)
    (hz : X.N[s]? = some z := by rfl) (hv : Vis X.env.scope z := by first | exact Or.inl rfl | exact Or.inr (Or.inl rfl) | exact Or.inr (Or.inr rfl)) (hd : (z == ("__debug__" : Str)) = false := by decide)
    (hcd : (z == ("__classdict__" : Str)) = false := by decide)
    (hj : X.N[j]? = some x := by rfl) (hx : Loc (relS scope X.env.scope) x := by first | exact .inl rfl | exact .inr rfl) (hf : (scope.names.lookup x == some NameKind.cell) = true ∨ (relS scope X.env.scope).names.lookup x = some .local := by first | exact .inl rfl | exact .inr rfl)
    (hs : ∀ y, foldedSetIterable (.Name z pz) X.env y = pure y := by intro _; rfl) : VE X W L (.ListComp elt [⟨.Name x p, .Name z pz, ifs, 0⟩] scope pos) (eCompO s j ct fe) := by
  refine ⟨PE.weak (pe_lc (own := [(x, j)]) (g := gName j) (tt := fun σ H Q => ∃ ll S ρ, RR X.K L ll S ρ σ H ∧ GoB { X with xe := fun _ _ => False } W0 L ll S ρ σ H (ct ρ) Q) (te := fun σ H Q => ∃ ll S ρ, RR X.K L ll S ρ σ H ∧ GoE { X with xe := fun _ _ => False } W0 L ll S ρ σ H (fe ρ) Q) hc hN (pi_list (pe_var hz hv hd hcd)) (blkOk_by ok) (fun s H C cl fp => pg_name (i := j) hN hj hx hf) (fun s H C cl fp => (ht s H C cl fp).pts) (fun s H C cl fp => (he s H C cl fp).pe) hs) fun σ H Q h => ?_⟩
  exact comp_goO (vs := [j]) rfl (fun s H C cl fp => X.blk s H scope (compEnvC scope cl C X.env) fp) h
theorem Reps.rev {K : PySem.W.Frag} {S : Hp} {xs : List D} {vs : List V} (h : Reps K S xs vs) : Reps K S xs.reverse vs.reverse := by
  cases h with
  | nil => exact .nil
  | cons h q =>
    rw [List.reverse_cons, List.reverse_cons]
    exact (Reps.rev q).append (.cons h .nil)
/-! [::-1] -/
def revV (x : Str) : Str := ⟨(x.cps.toList.reverse).toArray⟩
def tRev (K : PySem.W.Frag) (te : TE) : TE := fun σ H Q => te σ H fun x H1 => (∃ a xs, x = .ref a ∧ SqL K H1 a xs ∧ ∀ p, H1 p = none → Q (.ref p) (upd H1 p (.lst xs.reverse))) ∨ (∃ z : Str, x = .str z ∧ z.length ≤ 1000000 ∧ Q (.str (revV z)) H1)
theorem range_rev {α : Type} (xs : List α) : ((List.range xs.length).map fun k => xs.length - 1 - k).filterMap (fun i => xs[i]?) = xs.reverse := by
  apply List.ext_getElem?
  intro i
  rw [List.filterMap_map]
  have : ∀ n ≤ xs.length, ((List.range n).filterMap ((fun i => xs[i]?) ∘ fun k => xs.length - 1 - k)) = (xs.reverse).take n := by
    intro n
    induction n with
    | zero => intro _; simp
    | succ n ih =>
      intro h
      rw [List.range_succ, List.filterMap_append, ih (by omega), List.take_add_one]
      congr 1
      rw [List.getElem?_reverse (by omega)]
      simp only [List.filterMap_cons, List.filterMap_nil, Function.comp]
      rw [List.getElem?_eq_getElem (by omega)]
      rfl
  rw [this _ (Nat.le_refl _), List.take_of_length_le (by simp)]
theorem sidx_rev (n : Nat) : Builtin.Str.strSliceIndices none none (-1) n = (List.range n).map fun k => n - 1 - k := by
  simp only [Builtin.Str.strSliceIndices, sliceRange, show ¬ ((-1 : Int) > 0) by omega, if_false]
  by_cases h : n = 0
  · subst h; rfl
  · have h1 : ((n : Int) - 1 > -1) := by omega
    rw [if_pos h1]
    have e : (((n : Int) - 1 - -1 - -1 - 1) / - -1).toNat = n := by
      rw [show (- -1 : Int) = 1 by rfl, Int.ediv_one]
      omega
    rw [e]
    refine List.map_congr_left fun k hk => ?_
    have := List.mem_range.mp hk
    omega
theorem pe_rev {te : TE} {k : Nat} {p1 p2 p3 : Pos} (he : PE X e te) : PE X (.Subscript e (.Slice none none (some (.UnaryOp .USub (.Constant (.int 1) k p1) p2)) p3) pos) (tRev X.K te) := by
  refine ⟨fun pins s σ H Q I h => ?_⟩
  refine Subscript_ (thn (he.run pins s σ H _ I h) fun v s1 ⟨x, H1, I1, r1, q1⟩ => ?_)
  have hst : PO X (some (.UnaryOp .USub (.Constant (.int 1) k p1) p2)) (tPart (tUn (rU fun i => .int (-i)) (tC (.int 1)))) := po_some (pe_un un_neg pe_int)
  refine wpAny_Slice (thn (po_none.run pins s1 σ H1 (fun o H2 => o = none ∧ H2 = H1) I1 ⟨rfl, rfl⟩) fun vl s2 ⟨l, H2, I2, pl, el, e2⟩ => ?_)
  subst el e2
  refine thn (po_none.run pins s2 σ H2 (fun o H3 => o = none ∧ H3 = H2) I2 ⟨rfl, rfl⟩) fun vu s3 ⟨u, H3, I3, pu, eu, e3⟩ => ?_
  subst eu e3
  refine thn (hst.run pins s3 σ H3 (fun o H4 => o = some (-1) ∧ H4 = H3) I3 ⟨1, rfl, -1, rfl, rfl, rfl⟩) fun vs s4 ⟨o, H4, I4, ps, eo, e4⟩ => ?_
  subst eo e4
  have I5 : Inv X pins σ H4 { s4 with heap := s4.heap.push { cls := .type "slice", data := .fields #[vl, vu, vs] } } := I4.kept (t' := s4.toks) fun b ob q => Heap.get?_push_of_some _ q
  rcases q1 with ⟨a, xs, rfl, hx, q⟩ | ⟨z, rfl, hz, q⟩
  · cases r1
    obtain ⟨its, r, ht, hz⟩ := I5.list hx
    have hlen := r.length
    show wpAny (model X.prog X.w) X.A (subscriptTail e (.Slice none none (some (.UnaryOp .USub (.Constant (.int 1) k p1) p2)) p3) (.ref a) (.ref s4.heap.objs.size)) (EP X pins σ Q) X.xe { s4 with heap := s4.heap.push { cls := .type "slice", data := .fields #[vl, vu, vs] } }
    refine tail_any (ops := [.ref a, .ref s4.heap.objs.size]) ht.isList.typeIs (PySem.slot_list_getitem.lookup) ?_ (by with_unfolding_all rfl)
    refine wpAny_getItem_list_slice ht.isList (Heap.IsSliceOf.new _ vl vu vs) pl pu ps (by decide) ?_ (by rw [List.size_toArray]; omega)
    rw [PySem.W.krv_pick]
    refine ⟨.ref _, _, I5.laid (t' := s4.toks) (o := .lst xs.reverse) (fun b ob q => Heap.get?_push_of_some _ q) (Nat.le_refl _) ?_, rfl, q _ (I5.hok.fresh (Nat.le_refl _))⟩
    exact ⟨by rw [List.length_reverse]; exact hz, _, 0, r.reverse, Heap.get?_push_size _ rfl⟩
  · obtain ⟨t, rfl⟩ := r1
    obtain ⟨l', rfl, el⟩ := IsPart.raw pl
    obtain ⟨u', rfl, eu⟩ := IsPart.raw pu
    obtain ⟨w', rfl, ew⟩ := IsPart.raw ps
    show wpAny (model X.prog X.w) X.A (subscriptTail e (.Slice none none (some (.UnaryOp .USub (.Constant (.int 1) k p1) p2)) p3) (.str z t) (.ref s4.heap.objs.size)) (EP X pins σ Q) X.xe _
    refine tail_any (ops := [.ref s4.heap.objs.size, .str z t]) (typeIs_str _ _ _) (F.slot_str_getitem.lookup) ?_ (by with_unfolding_all rfl)
    refine wpAny_getItem_str_slice (l := l') (u := u') (st := w') ⟨_, Heap.get?_push_size _ rfl, rfl, rfl⟩ (by rw [ew]; rfl) ?_
    cases l' with
    | some _ => cases el
    | none =>
      cases u' with
      | some _ => cases eu
      | none =>
        have e1 : PySem.slicePicked z none none w' = (List.range z.length).map fun k => z.length - 1 - k := by
          unfold PySem.slicePicked
          rw [ew]
          exact sidx_rev _
        unfold PySem.sliceMade
        rw [e1, ew]
        have e2 : (((List.range z.length).map fun k => z.length - 1 - k).filterMap (z.cps[·]?)).toArray = (z.cps.toList.reverse).toArray := by
          have := range_rev z.cps.toList
          simp only [Array.length_toList, Array.getElem?_toList] at this
          rw [← this]
          rfl
        rw [e2]
        refine ⟨?_, .str _, H4, I5.tok _, ⟨_, rfl⟩, q⟩
        show ((z.cps.toList.reverse).toArray).size ≤ sizeLine
        rw [List.size_toArray, List.length_reverse, Array.length_toList]
        exact sz6 hz
theorem revP_na : NoAl1 revP := fun dx i e => by
  unfold revP at e
  split at e
  · cases e
  · split at e <;> cases e
  · cases e
theorem v_rev {k : Nat} {p1 p2 p3 : Pos} (ha : VE X W L a fa) : VE X W L (.Subscript a (.Slice none none (some (.UnaryOp .USub (.Constant (.int 1) k p1) p2)) p3) pos) (eUn revP fa) := by
  refine ⟨PE.weak (pe_rev ha.pe) fun σ H Q h => ?_⟩
  refine rdE_bind h fun ll S ρ S1 v H1 r ρ1 r1 t1 q1 g => ?_
  obtain ⟨dx, ex, g⟩ := opt_some (Pr := fun r => GoE X W L ll S ρ σ H r Q) g (fun z => z)
  obtain ⟨r', er, g⟩ := opt_some (Pr := fun r => GoE X W L ll S ρ σ H r Q) g (fun z => z)
  have P := GoE.prim r1 t1 g fun i z => revP_na dx i (z ▸ er)
  have O := q1.opd r1 ex
  cases dx <;> simp only [revP, reduceCtorEq] at er
  · rename_i t
    split at er
    · rename_i hl
      cases er
      rw [O.str]
      refine .inr ⟨_, rfl, by rw [tS_len]; exact hl, ?_⟩
      have : revV (tS t) = tS t.reverse := by simp [revV, tS]
      rw [this]
      exact P _ (.str _)
    · cases er
  · rename_i xs
    cases er
    obtain ⟨b, vs, rfl, hb, hr⟩ := O.lst r1.sub
    exact .inl ⟨b, vs, rfl, .inl (.inl hb), fun p hp => P p _ hp (.inl ⟨_, upd_same, hr.rev⟩)⟩
end
section
variable {E : String → List Sl → Prop} {ρ : EnvQ} {Q : Res × EnvQ → Prop} {fa : CE1} {ct : CB} {s j : Nat}
def cOQ (E : String → List Sl → Prop) (s j : Nat) (ct : CB) (fa : CE1) (ρ : EnvQ) (Q : Res × EnvQ → Prop) (o : Option Sl) (_ : Fx Q := .mk) : Prop := match o with
  | some (.ow _ (.lst xs)) => atQ (ρ[j]?) fun s0 => (s0.plain = true ∧ xs.length ≤ 100000) ∧ Wp E (loopLc j (keep s xs ct) (keep s xs fa) xs (ρ.set j .un)) fun r => Q (.ow (.lst r.1), r.2.set j s0)
  | some (.sh _) => Wp E (eComp j (iSeq (eName s)) ct fa ρ) Q
  | _ => False
theorem cO_ow {l : Bool} {xs : List D} : cOQ E s j ct fa ρ Q (some (.ow l (.lst xs))) ↔ atQ (ρ[j]?) fun s0 => (s0.plain = true ∧ xs.length ≤ 100000) ∧ Wp E (loopLc j (keep s xs ct) (keep s xs fa) xs (ρ.set j .un)) fun r => Q (.ow (.lst r.1), r.2.set j s0) := Iff.rfl
theorem we_compO : Wp E (eCompO s j ct fa ρ) Q ↔ cOQ E s j ct fa ρ Q ρ[s]? := by
  unfold eCompO
  cases e : ρ[s]? with
  | none => exact Iff.rfl
  | some z => cases z with
    | un => exact Iff.rfl
    | sh d => exact Iff.rfl
    | ow l d =>
      cases d <;> first | exact Iff.rfl | skip
      exact we_comp
theorem wp_keep {α : Type} {xs : List D} {f : EnvQ → R (List Sl) (α × EnvQ)} {QA : α × EnvQ → Prop} : Wp E (keep s xs f ρ) QA ↔ Wp E (f ρ) fun a => heldL xs a.2[s]? ∧ QA a := by
  unfold keep
  refine wp_bind.trans (wp_ext fun a => ?_)
  by_cases h : heldL xs a.2[s]?
  · rw [if_pos h]
    exact ⟨fun q => ⟨h, q⟩, fun q => q.2⟩
  · rw [if_neg h]
    exact ⟨fun q => q.elim, fun q => h q.1⟩
theorem lc_mapO {α : Type} {ρ : EnvQ} {f g : α → D} {l : Bool} {ys : List D} (hj : ρ.set j .un = ρ) (hs : ρ[s]? = some (.ow l (.lst ys))) (hsj : j ≠ s) (xs : List α) (h : ∀ x ∈ xs, Wp N0 (fa (ρ.set j (.sh (f x)))) fun r => r.1.own = some (g x) ∧ r.2 = ρ.set j (.sh (f x))) : Wp E (loopLc j (keep s ys bYes) (keep s ys fa) (xs.map f) ρ) fun r => r = (xs.map g, ρ) := by
  have hh : ∀ z, heldL ys (ρ.set j z)[s]? := fun z => held_set hsj ⟨_, hs⟩
  have := QL.lc_filt (E := E) (ct := keep s ys bYes) (fa := keep s ys fa) (f := f) (g := g) (p := fun _ => true) hj xs fun x hx => wp_keep.mpr (wb_yes.mpr ⟨hh _, rfl, fun _ => wp_keep.mpr ((h x hx).monoE fun r hr => ⟨by rw [hr.2]; exact hh _, hr⟩)⟩)
  rwa [List.filter_eq_self.mpr fun _ _ => rfl] at this
end
end QW

end
section
/-! dicts walked: their keys -/
namespace QW
open PySem PySem.Spec L2
def unK : PKey → D
  | .inl i => .int i
  | .inr t => .str t
def keysOf : D → Option (List D)
  | .dk kvs => some (kvs.map fun p => unK p.1)
  | .dt kvs => some (kvs.map fun p => .tup (p.1.map unK))
  | _ => none
def LK.add (ll : LK) (a : Addr) (o : Obj) : LK := ⟨fun b => if b = a then some o else ll.f b⟩
section
variable {K : PySem.W.Frag} {L : Nat → Option Addr} {ll : LK} {S S' : Hp} {ρ ρ' : List Sl} {σ σ' : St} {H H' : Hp} {a b : Addr} {u : HO} {od : Obj}
theorem LK.add_f : (ll.add a od).f b = if b = a then some od else ll.f b := rfl
theorem LK.mem_add : a ∈ ll.add a od := show (ll.add a od).f a ≠ none by rw [LK.add_f, if_pos rfl]; exact fun z => nomatch z
theorem LK.mem_old (h : b ∈ ll) : b ∈ ll.add a od := show (ll.add a od).f b ≠ none by
  rw [LK.add_f]
  split
  · exact fun z => nomatch z
  · exact h
theorem LK.of_add (h : b ∈ ll.add a od) (n : b ≠ a) : b ∈ ll := by
  have h : (ll.add a od).f b ≠ none := h
  rw [LK.add_f, if_neg n] at h
  exact h
theorem unK_rep : ∀ k : PKey, Rep K S (unK k) (kV (keyOf k))
  | .inl i => .int i
  | .inr t => .str t
theorem unKs_rep : ∀ ks : List PKey, Reps K S (ks.map unK) ((ks.map keyOf).map kV)
  | [] => .nil
  | k :: r => .cons (unK_rep k) (unKs_rep r)
theorem RepK.get {i : Nat} {k : PKey} {d : D} : ∀ {kvs : List (PKey × D)} {ws : List (Key × V)}, RepK K S kvs ws → ∀ {i : Nat} {k : PKey} {d : D}, kvs[i]? = some (k, d) → ∃ v, ws[i]? = some (keyOf k, v)
  | _, _, .nil, _, _, _, e => by simp at e
  | _, _, .cons _ _, 0, _, _, e => by simp at e; obtain ⟨rfl, rfl⟩ := e; exact ⟨_, rfl⟩
  | _, _, .cons _ q, i + 1, _, _, e => RepK.get (i := 0) (k := .inl 0) (d := .non) q (by simpa using e)
theorem RepT.get : ∀ {kvs : List (List PKey × D)} {ws : List (List Key × V)}, RepT K S kvs ws → ∀ {i : Nat} {k : List PKey} {d : D}, kvs[i]? = some (k, d) → ∃ v, ws[i]? = some (k.map keyOf, v)
  | _, _, .nil, _, _, _, e => by simp at e
  | _, _, .cons _ _, 0, _, _, e => by simp at e; obtain ⟨rfl, rfl⟩ := e; exact ⟨_, rfl⟩
  | _, _, .cons _ q, i + 1, _, _, e => RepT.get q (by simpa using e)
theorem lock_at (hl : ll.f a = some od) (hS : S a = some u) (nf : ∀ o x, u ≠ .frz o x) (sub : Sub S H) (lo : ∀ a ob, ll.f a = some ob → ∃ u, H a = some (.frz ob u)) : H a = some (.frz od u) := by
  obtain ⟨x, e⟩ := lo a od hl
  rcases sub.rd a u (.inl hS) nf with q | ⟨o', q⟩
  · rw [e] at q; cases q
    exact absurd rfl (nf _ _)
  · rw [e] at q; cases q
    exact e
theorem walk_dk {kvs : List (PKey × D)} {ws : List (Key × V)} (hl : ll.f a = some od) (hS : S a = some (.dK ws)) (h : RepK K S kvs ws) : WalkOk K ll S (kvs.map fun p => unK p.1) (Itk a od ws) := fun S' H' ex sub lo => by
  have hd := lock_at hl (ex a _ hS) (fun _ _ z => nomatch z) sub lo
  refine ⟨fun i d ed => ?_, hd, by rw [List.length_map, h.length]; exact Nat.le_refl _⟩
  rw [List.getElem?_map] at ed
  obtain ⟨⟨k, x⟩, e1, rfl⟩ := Option.map_eq_some_iff.mp ed
  obtain ⟨v, e2⟩ := RepK.get (i := 0) (k := .inl 0) (d := .non) h e1
  refine ⟨⟨hd, (List.getElem?_eq_some_iff.mp e2).1⟩, fun x H'' y => .inl ⟨y.1, ?_⟩⟩
  obtain ⟨k', v', e3, rfl⟩ := y.2
  rw [e2] at e3; cases e3
  exact unK_rep k
theorem walk_dt {kvs : List (List PKey × D)} {ws : List (List Key × V)} (hl : ll.f a = some od) (hS : S a = some (.dT ws)) (h : RepT K S kvs ws) : WalkOk K ll S (kvs.map fun p => .tup (p.1.map unK)) (Itkt a od ws) := fun S' H' ex sub lo => by
  have hd := lock_at hl (ex a _ hS) (fun _ _ z => nomatch z) sub lo
  refine ⟨fun i d ed => ?_, hd, by rw [List.length_map, h.length]; exact Nat.le_refl _⟩
  rw [List.getElem?_map] at ed
  obtain ⟨⟨k, x⟩, e1, rfl⟩ := Option.map_eq_some_iff.mp ed
  obtain ⟨v, e2⟩ := h.get e1
  refine ⟨⟨hd, (List.getElem?_eq_some_iff.mp e2).1⟩, fun x H'' y => .inr (.inr ⟨y.1, ?_⟩)⟩
  obtain ⟨k', v', q, e3, rfl, hq⟩ := y.2
  rw [e2] at e3; cases e3
  exact ⟨q, _, _, rfl, rfl, hq, unKs_rep k⟩
theorem lock_nf (hu : lockable u = true) : ∀ o x, u ≠ .frz o x := fun o x z => by subst z; cases hu
theorem RR.lock (r : RR K L ll S ρ σ H) (hS : S a = some u) (hu : lockable u = true) (hn : a ∉ ll) (od : Obj) : RR K L (ll.add a od) S ρ σ (L2.upd H a (.frz od u)) where
  len := r.len
  ex := fun b o e n => by
    have hb : b ≠ a := fun z => n (by subst z; exact LK.mem_add)
    rw [upd_ne hb]; exact r.ex b o e fun z => n (LK.mem_old z)
  lk := fun b h => by
    by_cases z : b = a
    · subst z; exact ⟨od, u, lock_nf hu, hu, hS, upd_same⟩
    · obtain ⟨ob, o, nf, nt, e, eh⟩ := r.lk b (LK.of_add h z)
      exact ⟨ob, o, nf, nt, e, by rw [upd_ne z]; exact eh⟩
  lo := fun b ob h => by
    rw [LK.add_f] at h
    by_cases z : b = a
    · subst z
      rw [if_pos rfl] at h; cases h
      exact ⟨u, upd_same⟩
    · rw [if_neg z] at h
      obtain ⟨x, e⟩ := r.lo b ob h
      exact ⟨x, by rw [upd_ne z]; exact e⟩
  nf := r.nf
  sh := r.sh
  ow := fun i l d h => by
    obtain ⟨b, e, n, ob, k⟩ := r.ow i l d h
    have hb : b ≠ a := fun z => by subst z; rw [n] at hS; cases hS
    exact ⟨b, e, n, ob.mono (Sub.refl S) (upd_ne hb), k⟩
  ln := r.ln
  sep := r.sep
theorem RR.lockedAs (r : RR K L (ll.add a od) S ρ σ H) (hS : S a = some u) (hu : lockable u = true) : H a = some (.frz od u) :=
  lock_at (by rw [LK.add_f, if_pos rfl]) hS (lock_nf hu) r.sub r.lo
theorem RR.unlock (r : RR K L (ll.add a od) S ρ σ H) (hS : S a = some u) (hu : lockable u = true) (hn : a ∉ ll) : RR K L ll S ρ σ (L2.upd H a u) where
  len := r.len
  ex := fun b o e n => by
    by_cases z : b = a
    · subst z
      rw [upd_same, ← e, hS]
    · rw [upd_ne z]; exact r.ex b o e fun y => n (LK.of_add y z)
  lk := fun b h => by
    have z : b ≠ a := fun z => hn (z ▸ h)
    obtain ⟨ob, o, nf, nt, e, eh⟩ := r.lk b (LK.mem_old h)
    exact ⟨ob, o, nf, nt, e, by rw [upd_ne z]; exact eh⟩
  lo := fun b ob h => by
    have z : b ≠ a := fun z => hn (z ▸ LK.mem h)
    obtain ⟨x, e⟩ := r.lo b ob (by rw [LK.add_f, if_neg z]; exact h)
    exact ⟨x, by rw [upd_ne z]; exact e⟩
  nf := r.nf
  sh := r.sh
  ow := fun i l d h => by
    obtain ⟨b, e, n, ob, k⟩ := r.ow i l d h
    have hb : b ≠ a := fun z => by subst z; rw [n] at hS; cases hS
    exact ⟨b, e, n, ob.mono (Sub.refl S) (upd_ne hb), k⟩
  ln := r.ln
  sep := r.sep
theorem Tr.unlock (t : Tr S ρ σ (L2.upd H a (.frz od u)) S' ρ' σ' H') (hH : H a = some u) : Tr S ρ σ H S' ρ' σ' (L2.upd H' a u) where
  ex := t.ex
  fr := fun b o e n => by
    by_cases z : b = a
    · subst z
      rw [upd_same, ← e, hH]
    · rw [upd_ne z]; exact t.fr b o (by rw [upd_ne z]; exact e) n
  nw := fun b h => (t.nw b h).imp id fun e => by
    by_cases z : b = a
    · subst z; rw [upd_same] at e; cases e
    · rwa [upd_ne z] at e
  ns := fun b h => (t.ns b h).imp id fun e => e.imp id fun e => by
    by_cases z : b = a
    · subst z; rw [upd_same] at e; cases e
    · rwa [upd_ne z] at e
  dm := fun b h => by
    by_cases z : b = a
    · subst z; rw [upd_same]; exact fun z => nomatch z
    · rw [upd_ne z]; exact t.dm b (by rw [upd_ne z]; exact h)
theorem ResR.unlock {r : Res} {v : V} (h : ResR K (L2.upd H a (.frz od u)) S' ρ' σ H' r v) (hS : S' a = some u) : ResR K H S' ρ' σ (L2.upd H' a u) r v := by
  cases r with
  | sh d => exact h
  | al i => exact h
  | ow d =>
    obtain ⟨b, rfl, n, ob, no, h0⟩ := h
    have hb : b ≠ a := fun z => by subst z; rw [n] at hS; cases hS
    exact ⟨b, rfl, n, ob.mono (Sub.refl _) (upd_ne hb), no, by rwa [upd_ne hb] at h0⟩
theorem RetR.unlock {r : Ar} {v : V} (h : RetR L K ρ σ (L2.upd H a (.frz od u)) S' H' r v) (hS : S' a = some u) : RetR L K ρ σ H S' (L2.upd H' a u) r v := by
  cases r with
  | sh d => exact h
  | ow d =>
    obtain ⟨b, rfl, n, ob, h0, hL⟩ := h
    have hb : b ≠ a := fun z => by subst z; rw [n] at hS; cases hS
    exact ⟨b, rfl, n, ob.mono (Sub.refl _) (upd_ne hb), h0.imp (fun e => by rwa [upd_ne hb] at e) id, hL⟩
/-- a slot given up -/
theorem share_go {i : Nat} {r : Res} {ρ1 : EnvQ} (rr : RR K L ll S ρ σ H) (h : eShare i ρ = .ok (r, ρ1)) : ∃ d S1 v, r = .sh d ∧ RR K L ll S1 ρ1 σ H ∧ Tr S ρ σ H S1 ρ1 σ H ∧ ρ1[i]? = some (.sh d) ∧ σ[i]? = some (some v) ∧ Rep K S1 d v := by
  unfold eShare at h
  split at h
  · rename_i d e
    cases h
    obtain ⟨v, e1, rp⟩ := rr.sh i d e
    exact ⟨d, S, v, rfl, rr, Tr.refl, e, e1, rp⟩
  · rename_i d e
    cases h
    obtain ⟨b, e1, n, ob, _⟩ := rr.ow i false d e
    exact ⟨d, _, .ref b, rfl, rr.shareSlot e e1 n ob, Tr.shareSlot e e1 n, List.getElem?_set_self (List.getElem?_eq_some_iff.mp e).1, e1, ob.freeze (Sub.of_ex (setS_ex n)) setS_same⟩
  · cases h
theorem share_not {i : Nat} {c : String} {ρ1 : EnvQ} : eShare i ρ ≠ .exc c ρ1 := fun h => by
  unfold eShare at h
  split at h <;> cases h
theorem rd_lock (rr : RR K L ll S ρ σ H) (h : Rd S a u) (hu : lockable u = true) : S a = some u := by
  rcases h with h | ⟨o, h⟩
  · exact h
  · have := rr.nf a o u h
    rw [hu] at this; cases this
/-- what has keys -/
theorem keys_at {d : D} {v : V} {xs : List D} (rr : RR K L ll S ρ σ H) (h : Rep K S d v) (e : keysOf d = some xs) : ∃ a u, v = .ref a ∧ S a = some u ∧ lockable u = true ∧ Mut (some u) ∧
    ∀ od, ll.f a = some od → ((∃ kvs, H a = some (.frz od (.dK kvs)) ∧ WalkOk K ll S xs (Itk a od kvs)) ∨ ∃ kvs, H a = some (.frz od (.dT kvs)) ∧ WalkOk K ll S xs (Itkt a od kvs)) := by
  cases h with
  | @dk b ws kvs h q =>
    cases e
    have hS := rd_lock rr h rfl
    exact ⟨b, _, rfl, hS, rfl, trivial, fun od ho => .inl ⟨ws, lock_at ho hS (fun _ _ z => nomatch z) rr.sub rr.lo, walk_dk ho hS q⟩⟩
  | @dt b ws kvs h q =>
    cases e
    have hS := rd_lock rr h rfl
    exact ⟨b, _, rfl, hS, rfl, trivial, fun od ho => .inr ⟨ws, lock_at ho hS (fun _ _ z => nomatch z) rr.sub rr.lo, walk_dt ho hS q⟩⟩
  | _ => cases e
end
section
variable {X : Cx} {W : WX} {L : Nat → Option Addr} {tg elt : Expr} {ifs : List Expr} {pos : Pos} {ll : LK} {S S1 : Hp} {ρ ρ1 : EnvQ} {σ : St} {H : Hp}
theorem PS.or {st : Stmt} {t t' : TS} (h : PS X st t) (g : PS X st t') : PS X st (fun D σ H => t D σ H ∨ t' D σ H) := ⟨fun pins s σ H D I q => q.elim (h.run pins s σ H D I) (g.run pins s σ H D I)⟩
theorem PE.or {e : Expr} {t t' : TE} (h : PE X e t) (g : PE X e t') : PE X e (fun σ H Q => t σ H Q ∨ t' σ H Q) := ⟨fun pins s σ H Q I q => q.elim (h.run pins s σ H Q I) (g.run pins s σ H Q I)⟩
def iKeyd (i : Nat) : CI := fun ρ => match ρ[i]? with
  | some (.sh d) => opt (keysOf d) fun xs => .ok (xs, ρ)
  | _ => .stuck
def preK (i : Nat) (ll : LK) (_ : EnvQ) (σ : St) : Prop := ∃ a, σ[i]? = some (some (.ref a)) ∧ a ∈ ll
theorem pi_keyd {i : Nat} {x : Str} {p : Pos} (hN : X.N[i]? = some x) (hv : Vis X.env.scope x) (hd : (x == ("__debug__" : Str)) = false) (hcd : (x == ("__classdict__" : Str)) = false) :
    PI X tg (.Name x p) fun σ H R' => ∃ ll S ρ, preK i ll ρ σ ∧ RR X.K L ll S ρ σ H ∧ GoI X W L ll S ρ σ H (iKeyd i ρ) R' := by
  refine PI.weak (pi_keys (pe_var hN hv hd hcd)) fun σ H R' h => ?_
  obtain ⟨ll, S, ρ, ⟨a, ea, hl⟩, rr, g⟩ := h
  obtain ⟨od, ho⟩ : ∃ od, ll.f a = some od := Option.ne_none_iff_exists'.mp hl
  unfold iKeyd at g
  split at g
  · rename_i d e
    obtain ⟨v, e1, rp⟩ := rr.sh i d e
    rw [ea] at e1; cases e1
    cases ek : keysOf d with
    | none => rw [ek] at g; exact g.elim
    | some xs =>
      rw [ek] at g
      obtain ⟨b, u, eb, _, _, _, k⟩ := keys_at rr rp ek
      cases eb
      refine ⟨.ref a, ea, a, od, rfl, (k od ho).imp ?_ ?_⟩
      · rintro ⟨kvs, h1, h2⟩
        exact ⟨kvs, h1, g S _ H rr Tr.refl h2⟩
      · rintro ⟨kvs, h1, h2⟩
        exact ⟨kvs, h1, g S _ H rr Tr.refl h2⟩
  · exact g.elim
/-- for key in one's dict -/
def sForD (i : Nat) (g : CG) (b : CS) : CS := fun ρ => (eShare i ρ).bind fun a => match a.1 with
  | .sh d => opt (keysOf d) fun xs => noX (loopFor g b xs a.2)
  | _ => .stuck
theorem vs_forD {i : Nat} {x : Str} {p : Pos} {body : List Stmt} {fg : CG} {fb : CS} (hp : PassesOwn (model X.prog X.w) X.A X.env X.xe) (hc : X.calm = true) (hg : VG X L tg fg) (hb : VSs X W L body fb)
    (hN : X.N[i]? = some x := by rfl) (hv : Vis X.env.scope x := by first | exact Or.inl rfl | exact Or.inr (Or.inl rfl) | exact Or.inr (Or.inr rfl)) (hd : (x == ("__debug__" : Str)) = false := by decide)
    (hcd : (x == ("__classdict__" : Str)) = false := by decide)
    (hs : ∀ y, foldedSetIterable (.Name x p) X.env y = pure y := by intro _; rfl) : VS X W L (.For tg (.Name x p) body [] pos) (sForD i fg fb) := by
  have base := ps_forG (W := W) (L := L) (body := body) (fb := fb) (pos := pos) (preK i) hp hc (pi_keyd (W := W) (L := L) (tg := tg) (p := p) hN hv hd hcd) hg hb hs
  refine ⟨PS.weak (PS.or base (ps_lock base)) fun σ H D h => ?_⟩
  obtain ⟨ll, S, ρ, rr, g⟩ := h
  unfold sForD at g
  cases e1 : eShare i ρ with
  | stuck => rw [e1] at g; exact g.elim
  | exc c ρ' => exact absurd e1 share_not
  | ok a =>
    obtain ⟨r, ρ1⟩ := a
    rw [e1] at g
    obtain ⟨d, S1, v, rfl, rr1, t1, ed, ev, rp⟩ := share_go rr e1
    have g : GoS X W L ll S ρ σ H (opt (keysOf d) fun xs => noX (loopFor fg fb xs ρ1)) D := g
    cases ek : keysOf d with
    | none => rw [ek] at g; exact g.elim
    | some xs =>
      rw [ek] at g
      have g : GoS X W L ll S ρ σ H (noX (loopFor fg fb xs ρ1)) D := g
      obtain ⟨a, u, rfl, hS, hu, mu, _⟩ := keys_at rr1 rp ek
      have ef : sFor (iKeyd i) fg fb ρ1 = loopFor fg fb xs ρ1 := by
        unfold sFor iKeyd
        rw [ed]
        show R.bind (opt (keysOf d) fun xs => .ok (xs, ρ1)) _ = _
        rw [ek]
        rfl
      have g1 := GoS.back t1 g
      by_cases ha : a ∈ ll
      · refine .inl ⟨ll, S1, ρ1, ⟨a, ev, ha⟩, rr1, ?_⟩
        rw [ef]
        cases el : loopFor fg fb xs ρ1 with
        | ok z => rw [el] at g1; exact g1
        | exc c ρ' => rw [el] at g1; exact g1.elim
        | stuck => rw [el] at g1; exact g1.elim
      · have hH := rr1.ex a u hS ha
        refine .inr ⟨a, u, hH, mu, fun od => ⟨ll.add a od, S1, ρ1, ⟨a, ev, LK.mem_add⟩, rr1.lock hS hu ha od, ?_⟩⟩
        rw [ef]
        cases el : loopFor fg fb xs ρ1 with
        | exc c ρ' => rw [el] at g1; exact g1.elim
        | stuck => rw [el] at g1; exact g1.elim
        | ok z =>
          rw [el] at g1
          cases z with
          | nx ρ' => exact fun S' σ' H' r' t' => ⟨r'.lockedAs (t'.ex a u hS) hu, g1 S' σ' _ (r'.unlock (t'.ex a u hS) hu ha) (t'.unlock hH)⟩
          | rt r ρ' => exact fun S' σ' v H' r' t' q => ⟨r'.lockedAs (t'.ex a u hS) hu, g1 S' σ' v _ (r'.unlock (t'.ex a u hS) hu ha) (t'.unlock hH) (q.unlock (t'.ex a u hS))⟩
/-- a list of what is told of the keys -/
def eCompD (i j : Nat) (ct : CB) (fe : CE1) : CE1 := fun ρ => (eShare i ρ).bind fun a => match a.1 with
  | .sh d => opt (keysOf d) fun xs => noX (eComp j (fun ρ => .ok (xs, ρ)) ct fe a.2)
  | _ => .stuck
theorem v_compD {i j : Nat} {x z : Str} {p pz : Pos} {scope : Scope} (hc : X.calm = true) (hN : X.N.Nodup) (ok : blkC X.N X.env.scope scope [(x, j)] = true)
    (ht : ∀ (s : Shared) (H : Hp) (C : Addr) (cl : List (Str × Addr)) (fp : List Addr), VTs (X.blk s H scope (compEnvC scope cl C X.env) fp) W0 L ifs ct)
    (he : ∀ (s : Shared) (H : Hp) (C : Addr) (cl : List (Str × Addr)) (fp : List Addr), VE (X.blk s H scope (compEnvC scope cl C X.env) fp) W0 L elt fe)
    (hz : X.N[i]? = some z := by rfl) (hv : Vis X.env.scope z := by first | exact Or.inl rfl | exact Or.inr (Or.inl rfl) | exact Or.inr (Or.inr rfl)) (hd : (z == ("__debug__" : Str)) = false := by decide)
    (hcd : (z == ("__classdict__" : Str)) = false := by decide)
    (hj : X.N[j]? = some x := by rfl) (hx : Loc (relS scope X.env.scope) x := by first | exact .inl rfl | exact .inr rfl) (hf : (scope.names.lookup x == some NameKind.cell) = true ∨ (relS scope X.env.scope).names.lookup x = some .local := by first | exact .inl rfl | exact .inr rfl)
    (hs : ∀ y, foldedSetIterable (.Name z pz) X.env y = pure y := by intro _; rfl) : VE X W L (.ListComp elt [⟨.Name x p, .Name z pz, ifs, 0⟩] scope pos) (eCompD i j ct fe) := by
  have base0 := pe_lc (pos := pos) (own := [(x, j)]) (g := gName j) (tt := fun σ H Q => ∃ ll S ρ, RR X.K L ll S ρ σ H ∧ GoB { X with xe := fun _ _ => False } W0 L ll S ρ σ H (ct ρ) Q) (te := fun σ H Q => ∃ ll S ρ, RR X.K L ll S ρ σ H ∧ GoE { X with xe := fun _ _ => False } W0 L ll S ρ σ H (fe ρ) Q) hc hN (pi_keyd (W := W) (L := L) (tg := .Name x p) (p := pz) hz hv hd hcd) (blkOk_by ok) (fun s H C cl fp => pg_name (i := j) hN hj hx hf) (fun s H C cl fp => (ht s H C cl fp).pts) (fun s H C cl fp => (he s H C cl fp).pe) hs
  have base : PE X (.ListComp elt [⟨.Name x p, .Name z pz, ifs, 0⟩] scope pos) (fun σ H Q => ∃ ll S ρ, preK i ll ρ σ ∧ RR X.K L ll S ρ σ H ∧ GoE X W L ll S ρ σ H (eComp j (iKeyd i) ct fe ρ) Q) :=
    PE.weak base0 fun σ H Q h => comp_goP (preK i) (vs := [j]) rfl (fun s H C cl fp => X.blk s H scope (compEnvC scope cl C X.env) fp) h
  refine ⟨PE.weak (PE.or base (pe_lock base)) fun σ H Q h => ?_⟩
  obtain ⟨ll, S, ρ, rr, g⟩ := h
  unfold eCompD at g
  cases e1 : eShare i ρ with
  | stuck => rw [e1] at g; exact g.elim
  | exc c ρ' => exact absurd e1 share_not
  | ok a =>
    obtain ⟨r, ρ1⟩ := a
    rw [e1] at g
    obtain ⟨d, S1, v, rfl, rr1, t1, ed, ev, rp⟩ := share_go rr e1
    have g : GoE X W L ll S ρ σ H (opt (keysOf d) fun xs => noX (eComp j (fun ρ => .ok (xs, ρ)) ct fe ρ1)) Q := g
    cases ek : keysOf d with
    | none => rw [ek] at g; exact g.elim
    | some xs =>
      rw [ek] at g
      have g : GoE X W L ll S ρ σ H (noX (eComp j (fun ρ => .ok (xs, ρ)) ct fe ρ1)) Q := g
      obtain ⟨a, u, rfl, hS, hu, mu, _⟩ := keys_at rr1 rp ek
      have ef : eComp j (iKeyd i) ct fe ρ1 = eComp j (fun ρ => .ok (xs, ρ)) ct fe ρ1 := by
        have : iKeyd i ρ1 = .ok (xs, ρ1) := by
          unfold iKeyd
          rw [ed]
          show (opt (keysOf d) fun xs => .ok (xs, ρ1)) = _
          rw [ek]
          rfl
        unfold eComp
        rw [this]
      have g1 := GoE.back t1 g
      by_cases ha : a ∈ ll
      · refine .inl ⟨ll, S1, ρ1, ⟨a, ev, ha⟩, rr1, ?_⟩
        rw [ef]
        cases el : eComp j (fun ρ => .ok (xs, ρ)) ct fe ρ1 with
        | ok z => rw [el] at g1; exact g1
        | exc c ρ' => rw [el] at g1; exact g1.elim
        | stuck => rw [el] at g1; exact g1.elim
      · have hH := rr1.ex a u hS ha
        refine .inr ⟨a, u, hH, mu, fun od => ⟨ll.add a od, S1, ρ1, ⟨a, ev, LK.mem_add⟩, rr1.lock hS hu ha od, ?_⟩⟩
        rw [ef]
        cases el : eComp j (fun ρ => .ok (xs, ρ)) ct fe ρ1 with
        | exc c ρ' => rw [el] at g1; exact g1.elim
        | stuck => rw [el] at g1; exact g1.elim
        | ok z =>
          rw [el] at g1
          obtain ⟨r, ρ'⟩ := z
          exact fun S' v H' r' t' q => ⟨r'.lockedAs (t'.ex a u hS) hu, g1 S' v _ (r'.unlock (t'.ex a u hS) hu ha) (t'.unlock hH) (q.unlock (t'.ex a u hS))⟩
end
/-! reckoning -/
section
variable {E : String → EnvQ → Prop} {ρ : EnvQ} {fa : CE1} {ct : CB} {Q : Res × EnvQ → Prop} {QS : Fl → Prop} {i j : Nat}
def forDQ (g : CG) (b : CS) (QS : Fl → Prop) (x : Res × EnvQ) (_ : Fx QS := .mk) : Prop := match x with
  | (.sh d, ρ) => atQ (keysOf d) fun xs => Wp N0 (loopFor g b xs ρ) QS
  | _ => False
theorem forD_sh {g : CG} {b : CS} {d : D} : forDQ g b QS (.sh d, ρ) ↔ atQ (keysOf d) fun xs => Wp N0 (loopFor g b xs ρ) QS := Iff.rfl
theorem ws_forD {g : CG} {b : CS} : Wp E (sForD i g b ρ) QS ↔ Wp E (eShare i ρ) fun x => forDQ g b QS x := by
  unfold sForD
  refine wp_bind.trans (wp_ext fun a => ?_)
  obtain ⟨r, ρ'⟩ := a
  cases r with
  | sh d => exact wp_opt.trans (at_ext fun xs => wp_noX)
  | ow d => exact Iff.rfl
  | al k => exact Iff.rfl
def compDQ (j : Nat) (ct : CB) (fe : CE1) (Q : Res × EnvQ → Prop) (x : Res × EnvQ) (_ : Fx Q := .mk) : Prop := match x with
  | (.sh d, ρ) => atQ (keysOf d) fun xs => atQ (ρ[j]?) fun s0 => (s0.plain = true ∧ xs.length ≤ 100000) ∧ Wp N0 (loopLc j ct fe xs (ρ.set j .un)) fun r => Q (.ow (.lst r.1), r.2.set j s0)
  | _ => False
theorem compD_sh {d : D} : compDQ j ct fa Q (.sh d, ρ) ↔ atQ (keysOf d) fun xs => atQ (ρ[j]?) fun s0 => (s0.plain = true ∧ xs.length ≤ 100000) ∧ Wp N0 (loopLc j ct fa xs (ρ.set j .un)) fun r => Q (.ow (.lst r.1), r.2.set j s0) := Iff.rfl
theorem we_compD : Wp E (eCompD i j ct fa ρ) Q ↔ Wp E (eShare i ρ) fun x => compDQ j ct fa Q x := by
  unfold eCompD
  refine wp_bind.trans (wp_ext fun a => ?_)
  obtain ⟨r, ρ'⟩ := a
  cases r with
  | sh d => exact wp_opt.trans (at_ext fun xs => wp_noX.trans we_comp)
  | ow d => exact Iff.rfl
  | al k => exact Iff.rfl
theorem ko_k {kvs : List (PKey × D)} : keysOf (.dk kvs) = some (kvs.map fun p => unK p.1) := rfl
theorem ko_t {kvs : List (List PKey × D)} : keysOf (.dt kvs) = some (kvs.map fun p => .tup (p.1.map unK)) := rfl
end
end QW

end
section
/-! dict.get, enumerate -/
namespace QW
open PySem PySem.Spec L2
section
variable {X : Cx} {W : WX} {L : Nat → Option Addr} {e o f tg : Expr} {pos apos cpos : Pos} {fa fb fc : CE1} {ll : LK} {S S1 S2 : Hp} {ρ ρ1 ρ2 : EnvQ} {σ : St} {H H1 H2 : Hp} {Q : VK}
theorem dict_is {d : D} {v : V} (h : Opd X.K S H d v) (hs : Sub S H) (hd : isDd d = true) : ∃ a, v = .ref a ∧ IsD H a := by
  cases d with
  | dk kvs =>
    obtain ⟨a, vs, rfl, h1, _⟩ := h.dk hs
    exact ⟨a, rfl, .inl ⟨vs, h1⟩⟩
  | dt kvs =>
    obtain ⟨a, vs, rfl, h1, _⟩ := h.dt hs
    exact ⟨a, rfl, .inr ⟨vs, h1⟩⟩
  | _ => cases hd
theorem v_dget1 (ha : VE X W L o fa) (hb : VE X W L e fb) (hu : X.A.units + 1 < cLine) (m : M1 X o "get" apos e cpos := by exact ⟨rfl, rfl, rfl, rfl⟩) : VE X W L (.Call (.Attribute o "get" apos) [e] [] cpos) (eDGet fa fb) := by
  refine ⟨PE.weak (pe_dget1 hu ha.pe hb.pe m) fun σ H Q h => ?_⟩
  refine rdE_bind h fun ll S ρ S1 v H1 r ρ1 r1 t1 q1 g => ?_
  obtain ⟨d0, e0, g⟩ := opt_some (Pr := fun r => GoE X W L ll S ρ σ H r Q) g (fun z => z)
  obtain ⟨hd, g⟩ := ite_go g
  obtain ⟨a, rfl, isd⟩ := dict_is (q1.opd r1 e0) r1.sub hd
  refine ⟨a, rfl, isd, go_bind r1 t1 g fun S2 u H2 r' ρ2 r2 t2 q2 g => ?_⟩
  obtain ⟨d, e1, g⟩ := opt_some (Pr := fun r => GoE X W L ll S ρ σ H r Q) g (fun z => z)
  obtain ⟨k, e2, g⟩ := opt_some (Pr := fun r => GoE X W L ll S ρ σ H r Q) g (fun z => z)
  obtain ⟨o, e4, g⟩ := opt_some (Pr := fun r => GoE X W L ll S ρ σ H r Q) g (fun z => z)
  obtain ⟨a', wv, ea, hg, h1, h2⟩ := lookD_get r2.sub ((q1.shift t2).opd r2 e1) (q2.opd r2 e2) e4
  cases ea
  refine ⟨wv, hg, ?_⟩
  cases o with
  | some dv =>
    obtain ⟨v', rfl, rv⟩ := h1 dv rfl
    exact g S2 v' H2 r2 (t1.trans t2) rv
  | none =>
    rw [h2 rfl]
    exact g S2 _ H2 r2 (t1.trans t2) .non
theorem v_dget2 (ha : VE X W L o fa) (hb : VE X W L e fb) (hx : VE X W L f fc) (hu : X.A.units + 1 < cLine) (m : M2 X o "get" apos e f cpos := by exact ⟨rfl, rfl, rfl, rfl⟩) : VE X W L (.Call (.Attribute o "get" apos) [e, f] [] cpos) (eDGet2 fa fb fc) := by
  refine ⟨PE.weak (pe_dget2 hu ha.pe hb.pe hx.pe m) fun σ H Q h => ?_⟩
  refine rdE_bind h fun ll S ρ S1 v H1 r ρ1 r1 t1 q1 g => ?_
  obtain ⟨d0, e0, g⟩ := opt_some (Pr := fun r => GoE X W L ll S ρ σ H r Q) g (fun z => z)
  obtain ⟨hd, g⟩ := ite_go g
  obtain ⟨a, rfl, isd⟩ := dict_is (q1.opd r1 e0) r1.sub hd
  refine ⟨a, rfl, isd, go_bind r1 t1 g fun S2 u H2 r' ρ2 r2 t2 q2 g => ?_⟩
  refine go_bind r2 (t1.trans t2) g fun S3 w H3 r'' ρ3 r3 t3 q3 g => ?_
  obtain ⟨d, e1, g⟩ := opt_some (Pr := fun r => GoE X W L ll S ρ σ H r Q) g (fun z => z)
  obtain ⟨k, e2, g⟩ := opt_some (Pr := fun r => GoE X W L ll S ρ σ H r Q) g (fun z => z)
  obtain ⟨z, e3, g⟩ := opt_some (Pr := fun r => GoE X W L ll S ρ σ H r Q) g (fun z => z)
  obtain ⟨o, e4, g⟩ := opt_some (Pr := fun r => GoE X W L ll S ρ σ H r Q) g (fun z => z)
  obtain ⟨a', wv, ea, hg, h1, h2⟩ := lookD_get r3.sub (((q1.shift t2).shift t3).opd r3 e1) ((q2.shift t3).opd r3 e2) e4
  cases ea
  refine ⟨wv, hg, ?_⟩
  cases o with
  | some dv =>
    obtain ⟨v', rfl, rv⟩ := h1 dv rfl
    exact g S3 v' H3 r3 ((t1.trans t2).trans t3) rv
  | none =>
    rw [h2 rfl]
    obtain ⟨S4, r4, t4, rp⟩ := own_rep r3 ((t1.trans t2).trans t3) q3 e3
    exact g S4 w H3 r4 t4 rp
end
/-! reckoning -/
section
variable {E : String → EnvQ → Prop} {ρ : EnvQ} {fa fb fc : CE1} {Q : Res × EnvQ → Prop}
theorem we_dget : Wp E (eDGet fa fb ρ) Q ↔ Wp E (fa ρ) fun a => atQ (a.1.get a.2) fun d0 => isDd d0 = true ∧ Wp E (fb a.2) fun b => atQ (a.1.get b.2) fun d => atQ (b.1.get b.2) fun k => atQ (lookD d k) fun o => Q (.sh (o.getD .non), b.2) := by
  unfold eDGet
  exact wp_bind.trans (wp_ext fun a => wp_opt.trans (at_ext fun d0 => wp_only.trans (and_congr_right fun _ => wp_bind.trans (wp_ext fun b => wp_opt.trans (at_ext fun d => wp_opt.trans (at_ext fun k => wp_opt.trans (at_ext fun o => Iff.rfl)))))))
theorem we_dget2 : Wp E (eDGet2 fa fb fc ρ) Q ↔ Wp E (fa ρ) fun a => atQ (a.1.get a.2) fun d0 => isDd d0 = true ∧ Wp E (fb a.2) fun b => Wp E (fc b.2) fun x => atQ (a.1.get x.2) fun d => atQ (b.1.get x.2) fun k => atQ (x.1.own) fun z => atQ (lookD d k) fun o => Q (.sh (o.getD z), x.2) := by
  unfold eDGet2
  exact wp_bind.trans (wp_ext fun a => wp_opt.trans (at_ext fun d0 => wp_only.trans (and_congr_right fun _ => wp_bind.trans (wp_ext fun b => wp_bind.trans (wp_ext fun x => wp_opt.trans (at_ext fun d => wp_opt.trans (at_ext fun k => wp_opt.trans (at_ext fun z => wp_opt.trans (at_ext fun o => Iff.rfl)))))))))
theorem is_dk {kvs : List (PKey × D)} : isDd (.dk kvs) = true := rfl
theorem is_dt {kvs : List (List PKey × D)} : isDd (.dt kvs) = true := rfl
end
end QW

end
section
/-! enumerate -/
namespace QW
open PySem PySem.Spec L2
section
variable {X : Cx} {W : WX} {L : Nat → Option Addr} {e : Expr} {pos p tpos : Pos} {fe : CE1} {ll : LK} {S : Hp} {elts : List Expr} {kk : Nat}
theorem enum_get {xs : List D} {i : Nat} {d : D} (h : (enum xs)[i]? = some d) : ∃ x, xs[i]? = some x ∧ d = .tup [.int i, x] := by
  unfold enum at h
  rw [List.getElem?_map, List.getElem?_zipIdx] at h
  obtain ⟨q, h1, rfl⟩ := Option.map_eq_some_iff.mp h
  obtain ⟨x, h2, rfl⟩ := Option.map_eq_some_iff.mp h1
  exact ⟨x, h2, by simp⟩
theorem enum_len {xs : List D} : (enum xs).length = xs.length := by unfold enum; simp
theorem enum_walk {a : Addr} {vs : List V} {xs : List D} (hl : SqL X.K S a vs) (hs : Reps X.K S xs vs) : WalkOk X.K ll S (enum xs) (Ite X.K a) := fun S' H' ex sub _ => by
  have hl' := sub.l ((Sub.of_ex ex).l hl)
  refine ⟨fun i d ed => ?_, vs, hl', by rw [enum_len, hs.length]; exact Nat.le_refl _⟩
  obtain ⟨x, ex', rfl⟩ := enum_get ed
  obtain ⟨w, ew, rw'⟩ := hs.get ex'
  refine ⟨⟨vs, w, hl', ew⟩, fun v H'' y => .inr (.inl ?_)⟩
  obtain ⟨T, x', rfl, hT, rfl, hx⟩ := y
  have := hx vs hl'
  rw [ew] at this
  cases this
  exact ⟨T, _, rfl, hT, rfl, .inr ⟨_, _, rfl, upd_same, .cons (.int _) (.cons (rw'.mono (Sub.of_ex ex)) .nil)⟩⟩
theorem vi_enum (hg : Gl X "enumerate") (hm : X.mg "enumerate" = none) (he : VE X W L e fe) (hs : starEach [e] X.env = [(false, eval e X.env)] := by rfl) : VI X W L (.Tuple elts kk tpos) (.Call (.Name "enumerate" p) [e] [] pos) (iEnu fe) := by
  refine ⟨PI.weak (pi_enum hg hm (va_cons he va_nil hs).pa hs) fun σ H R1 h => ?_⟩
  obtain ⟨ll, S, ρ, rr, g⟩ := h
  refine ⟨ll, S, ρ, rr, ?_⟩
  unfold iEnu at g
  unfold lCons lNil
  cases e1 : fe ρ with
  | stuck => rw [e1] at g; exact g
  | exc c ρ' => rw [e1] at g; exact g
  | ok q =>
    obtain ⟨r, ρ1⟩ := q
    rw [e1] at g
    intro S1 vs H1 r1 t1 q1
    cases q1 with
    | @cons _ v _ vs' q1 q2 =>
      cases q2
      unfold R.bind at g
      dsimp only at g
      split at g
      · rename_i xs eo
        obtain ⟨S2, r2, t2, hd⟩ := own_rep r1 t1 q1 eo
        cases hd with
        | @lst a vs _ hl0 hs =>
          have hl : SqL X.K S2 a vs := .inl (.inl hl0)
          exact ⟨a, vs, rfl, r2.sub.l hl, g S2 _ H1 r2 t2 (enum_walk hl hs)⟩
      · exact g.elim
section
variable {L : Nat → Option Addr} {a : Expr} {fa : CE1} {x : Str} {T : GTab} {px : Pos}
theorem vt_inG (G : GDict X.K X.w X.mg x T) (hg : Gl X x) (ha : VE X W L a fa) (hd : (x == ("__debug__" : Str)) = false := by decide) (hm : behindInMarks .In (.Name x px) = false := by first | exact nomark _ | rfl) : VT X W L (.Compare a [.In] [.Name x px] pos) (bVal (eUn (inGP T) fa)) := by
  obtain ⟨b, es, n, h1, h2, h3⟩ := G.some
  refine ⟨PT.weak (pt_cmpR (op_in_kd h2) ha.pe (pe_glob (v := .ref b) hg h1 rfl hd) hm) fun σ H Q h => ?_⟩
  refine rdE_mono (un_go (inGP_na T) (rd_val h)) fun v H1 ⟨S2, dx, r', hs, hx, e, k⟩ => ?_
  unfold inGP at e
  split at e
  · rename_i t
    cases e
    obtain ⟨r2, e2, e3⟩ := h3 t
    exact ⟨tS t, r2, hx.str, rfl, e2, by rw [e3]; exact k _ (.bl _)⟩
  · cases e
theorem vt_nmG (G : GDict X.K X.w X.mg x T) (hg : Gl X x) (ha : VE X W L a fa) (hd : (x == ("__debug__" : Str)) = false := by decide) (hm : behindInMarks .NotIn (.Name x px) = false := by first | exact nomark _ | rfl) : VT X W L (.Compare a [.NotIn] [.Name x px] pos) (bVal (eUn (nmGP T) fa)) := by
  obtain ⟨b, es, n, h1, h2, h3⟩ := G.some
  refine ⟨PT.weak (pt_cmpR (op_notIn_kd h2) ha.pe (pe_glob (v := .ref b) hg h1 rfl hd) hm) fun σ H Q h => ?_⟩
  refine rdE_mono (un_go (nmGP_na T) (rd_val h)) fun v H1 ⟨S2, dx, r', hs, hx, e, k⟩ => ?_
  unfold nmGP at e
  split at e
  · rename_i t
    cases e
    obtain ⟨r2, e2, e3⟩ := h3 t
    exact ⟨tS t, r2, hx.str, rfl, e2, by rw [e3]; exact k _ (.bl _)⟩
  · cases e
end
end
section
variable {X : Cx}
/-- is, of truths -/
def isBP : P2 := pB fun x y => match x, y with
  | .bl a, .bl b => some (decide (a = b))
  | _, _ => none
def noBP : P2 := pB fun x y => match x, y with
  | .bl a, .bl b => some (!decide (a = b))
  | _, _ => none
theorem isBP_ok : OpR X (compareOp .Is) (rP2 X.K isBP) := pB_ok fun dx dy b S x y H Q hs hx hy e k => by
  split at e
  · cases e
    exact ⟨_, op_is_bl, _, _, hx.bl, hy.bl, k⟩
  · cases e
theorem noBP_ok : OpR X (compareOp .IsNot) (rP2 X.K noBP) := pB_ok fun dx dy b S x y H Q hs hx hy e k => by
  split at e
  · cases e
    exact ⟨_, op_isnot_bl, _, _, hx.bl, hy.bl, k⟩
  · cases e
end
section
variable {E : String → EnvQ → Prop} {ρ : EnvQ} {fa : CE1} {QI : List D × EnvQ → Prop}
theorem wi_enu : Wp E (iEnu fa ρ) QI ↔ Wp E (fa ρ) fun a => atQ (a.1.own) fun d => atQ d.asL fun xs => QI (enum xs, a.2) := by
  unfold iEnu
  refine wp_bind.trans (wp_ext fun a => ?_)
  cases a.1.own with
  | none => exact Iff.rfl
  | some d => cases d <;> exact Iff.rfl
theorem as_L {xs : List D} : D.asL (.lst xs) = some xs := rfl
end
end QW

end
section
namespace QL
open PySem PySem.Spec L2 QW
--DEF is_whole
def cis_whole : CS :=
    (sRet (eAnd (eIsT .int (eName 0)) (eNot (eIsT .bool (eName 0)))))
def fis_whole : Fn := runFn 1 cis_whole
--DEF is_table
def cis_table : CS :=
    (sSeq (sIf (bOr (bNot (bVal (eIsT .tuple (eName 0)))) (bVal (eBin neP (eCallB lenP (lCons (eName 0) lNil)) (eC (.int 4))))) (sRet (eC (.bl false))) sNil)
    (sRet (eCallB allP (lCons (eComp 1 (iAny (eName 0)) bYes (eCall 1 fis_whole (lCons (eName 1) lNil))) lNil))))
def fis_table : Fn := runFn 2 cis_table
--DEF product
def cproduct : CS :=
    (sSeq (sAsg (eName 0) (gTupD 4 (gsCons (gSet 2) (gsCons (gSet 3) (gsCons (gSet 4) (gsCons (gSet 5) gsNil))))))
    (sSeq (sAsg (eName 1) (gTupD 4 (gsCons (gSet 6) (gsCons (gSet 7) (gsCons (gSet 8) (gsCons (gSet 9) gsNil))))))
    (sRet (eTup (lCons (eBin addP (eBin mulP (eName 2) (eName 6)) (eBin mulP (eName 3) (eName 8))) (lCons (eBin addP (eBin mulP (eName 2) (eName 7)) (eBin mulP (eName 3) (eName 9))) (lCons (eBin addP (eBin mulP (eName 4) (eName 6)) (eBin mulP (eName 5) (eName 8))) (lCons (eBin addP (eBin mulP (eName 4) (eName 7)) (eBin mulP (eName 5) (eName 9))) lNil))))))))
def fproduct : Fn := runFn 10 cproduct
--DEF product_of
def cproduct_of : CS :=
    (sSeq (sLet 1 (eC (.ctup [.int 1, .int 0, .int 0, .int 1])))
    (sSeq (sFor (iAny (eName 0)) (gSet 2) (sLet 1 (eCall 2 fproduct (lCons (eName 1) (lCons (eName 2) lNil)))))
    (sRet (eName 1))))
def fproduct_of : Fn := runFn 3 cproduct_of
--DEF worth
def cworth : CS :=
    (sRet (eBin subP (eBin mulP (eBin gixP (eName 0) (eC (.int 0))) (eBin gixP (eName 0) (eC (.int 3)))) (eBin mulP (eBin gixP (eName 0) (eC (.int 1))) (eBin gixP (eName 0) (eC (.int 2))))))
def fworth : Fn := runFn 1 cworth
--DEF back
def cback : CS :=
    (sSeq (sIf (bVal (eBin neP (eCall 1 fworth (lCons (eName 0) lNil)) (eC (.int 1)))) (sRaise "NoBack") sNil)
    (sSeq (sAsg (eName 0) (gTupD 4 (gsCons (gSet 1) (gsCons (gSet 2) (gsCons (gSet 3) (gsCons (gSet 4) gsNil))))))
    (sRet (eTup (lCons (eName 4) (lCons (eBin subP (eC (.int 0)) (eName 2)) (lCons (eBin subP (eC (.int 0)) (eName 3)) (lCons (eName 1) lNil))))))))
def fback : Fn := runFn 5 cback
--DEF _law_whole
def c_law_whole : CS :=
    (sRet (eAnd (eIsT .int (eName 0)) (eNot (eIsT .bool (eName 0)))))
def f_law_whole : Fn := runFn 1 c_law_whole
--DEF _law_draw
def c_law_draw : CS :=
    (sSeq (sIf (bVal (eBin gtP (eBin gixP (eName 0) (eC (.int 0))) (eC (.int 0)))) (sSeq (sLet 2 (eBin modP (eBin gixP (eName 0) (eC (.int 0))) (eName 1)))
    (sSeq (sSub 0 setM (eBin fdivP (eBin gixP (eName 0) (eC (.int 0))) (eName 1)) (eC (.int 0)))
    (sRet (eName 2)))) sNil)
    (sSeq (sSub 0 setM (eBin addP (eBin modP (eBin mulP (eBin gixP (eName 0) (eC (.int 1))) (eC (.int 69621))) (eBin gixP (eName 0) (eC (.int 2)))) (eC (.int 1))) (eC (.int 1)))
    (sRet (eBin modP (eBin fdivP (eBin modP (eBin mulP (eBin gixP (eName 0) (eC (.int 1))) (eBin addP (eBin fdivP (eBin gixP (eName 0) (eC (.int 1))) (eC (.int 128))) (eC (.int 3)))) (eC (.int 2147483423))) (eC (.int 8))) (eName 1)))))
def f_law_draw : Fn := runFn 3 c_law_draw
--DEF _law_number
def c_law_number : CS :=
    (sSeq (sLet 1 (eCall 2 f_law_draw (lCons (eName 0) (lCons (eBin powP (eC (.int 10)) (eC (.int 6))) lNil))))
    (sSeq (sFor (iRng1' (lCons (eBin gixP (eLst (lCons (eC (.int 0)) (lCons (eC (.int 0)) (lCons (eC (.int 1)) (lCons (eC (.int 5)) (lCons (eC (.int 31)) lNil)))))) (eCall 2 f_law_draw (lCons (eName 0) (lCons (eC (.int 5)) lNil)))) lNil)) (gSet 2) (sLet 1 (eBin addP (eBin mulP (eName 1) (eBin powP (eC (.int 10)) (eC (.int 6)))) (eCall 2 f_law_draw (lCons (eName 0) (lCons (eBin powP (eC (.int 10)) (eC (.int 6))) lNil))))))
    (sRet (eBin gixP (eLst (lCons (eName 1) (lCons (eBin subP (eC (.int 0)) (eName 1)) (lCons (eBin subP (eBin modP (eName 1) (eC (.int 7))) (eC (.int 3))) lNil)))) (eCall 2 f_law_draw (lCons (eName 0) (lCons (eC (.int 3)) lNil)))))))
def f_law_number : Fn := runFn 3 c_law_number
--DEF _law_times
def c_law_times : CS :=
    (sSeq (sSet 2 (eLst lNil))
    (sSeq (sFor (iAny (eTup (lCons (eC (.int 0)) (lCons (eC (.int 2)) lNil)))) (gSet 3) (sFor (iRng1' (lCons (eC (.int 2)) lNil)) (gSet 4) (sSeq (sLet 5 (eBin mulP (eBin gixP (eName 0) (eName 3)) (eBin gixP (eName 1) (eName 4))))
    (sExpr (eMut 2 isL appendM (lCons (eBin addP (eName 5) (eBin mulP (eBin gixP (eName 0) (eBin addP (eName 3) (eC (.int 1)))) (eBin gixP (eName 1) (eBin addP (eC (.int 2)) (eName 4))))) lNil))))))
    (sRet (eCallB tupleP (lCons (eName 2) lNil)))))
def f_law_times : Fn := runFn 6 c_law_times
--DEF _law_made
def c_law_made : CS :=
    (sSeq (sLet 1 (eTup (lCons (eC (.int 1)) (lCons (eC (.int 0)) (lCons (eC (.int 0)) (lCons (eC (.int 1)) lNil))))))
    (sSeq (sFor (iAny (eName 0)) (gSet 2) (sLet 1 (eCall 2 f_law_times (lCons (eName 1) (lCons (eName 2) lNil)))))
    (sRet (eName 1))))
def f_law_made : Fn := runFn 3 c_law_made
--DEF _law_of_letters
def c_law_of_letters : CS :=
    (sSeq (sSet 1 (eDisp (lCons (eC (dS "l")) (lCons (eTup (lCons (eC (.int 1)) (lCons (eC (.int 0)) (lCons (eC (.int 1)) (lCons (eC (.int 1)) lNil))))) (lCons (eC (dS "r")) (lCons (eTup (lCons (eC (.int 1)) (lCons (eC (.int 1)) (lCons (eC (.int 0)) (lCons (eC (.int 1)) lNil))))) (lCons (eC (dS "u")) (lCons (eTup (lCons (eC (.int 1)) (lCons (eC (.int 2)) (lCons (eC (.int 0)) (lCons (eC (.int 1)) lNil))))) (lCons (eC (dS "v")) (lCons (eTup (lCons (eC (.int 1)) (lCons (eC (.int 0)) (lCons (eC (.int 2)) (lCons (eC (.int 1)) lNil))))) lNil))))))))))
    (sSeq (sExpr (eMut 1 isDi updateM (lCons (eDisp (lCons (eC (dS "U")) (lCons (eTup (lCons (eC (.int 1)) (lCons (eUn negP (eC (.int 2))) (lCons (eC (.int 0)) (lCons (eC (.int 1)) lNil))))) (lCons (eC (dS "V")) (lCons (eTup (lCons (eC (.int 1)) (lCons (eC (.int 0)) (lCons (eUn negP (eC (.int 2))) (lCons (eC (.int 1)) lNil))))) lNil))))) lNil)))
    (sRet (eCall 1 f_law_made (lCons (eComp 2 (iAny (eName 0)) bYes (eBin gixP (eName 1) (eName 2))) lNil)))))
def f_law_of_letters : Fn := runFn 3 c_law_of_letters
--DEF _law_draws
def c_law_draws : CS :=
    (sSeq (sLet 2 (eTup (lCons (eC (.int 2147483647)) (lCons (eC (.int 2147483629)) (lCons (eC (.int 2147483587)) (lCons (eC (.int 2147483579)) (lCons (eC (.int 2147483563)) (lCons (eC (.int 2147483549)) (lCons (eC (.int 2147483543)) (lCons (eC (.int 2147483497)) lNil))))))))))
    (sSeq (sLet 3 (eBin addP (eBin mulP (eC (.int 15485863)) (eName 1)) (eC (.int 7))))
    (sSeq (sIf (bVal (eBin ltP (eName 1) (eCallB lenP (lCons (eName 0) lNil)))) (sLet 3 (eBin modP (eBin gixP (eName 0) (eName 1)) (eBin mulP (eBin powP (eC (.int 10)) (eC (.int 60))) (eBin powP (eC (.int 10)) (eC (.int 60)))))) (sIf (bVal (eBin gtP (eCallB lenP (lCons (eName 0) lNil)) (eC (.int 0)))) (sLet 3 (eBin addP (eBin modP (eBin gixP (eName 0) (eBin modP (eName 1) (eCallB lenP (lCons (eName 0) lNil)))) (eBin powP (eC (.int 10)) (eC (.int 15)))) (eBin mulP (eC (.int 15485863)) (eName 1)))) sNil))
    (sSeq (sLet 4 (eBin modP (eBin mulP (eBin addP (eBin addP (eBin modP (eName 3) (eC (.int 2147483423))) (eBin mulP (eC (.int 3)) (eName 1))) (eC (.int 1))) (eBin addP (eC (.int 48271)) (eBin mulP (eBin mulP (eC (.int 2)) (eName 1)) (eName 1)))) (eC (.int 2147483423))))
    (sSeq (sLet 4 (eBin addP (eBin addP (eBin modP (eBin mulP (eBin mulP (eName 4) (eName 4)) (eName 4)) (eC (.int 2147483399))) (eName 1)) (eC (.int 1))))
    (sRet (eLst (lCons (eBin mulP (eName 3) (eCallB intP (lCons (eBin geP (eName 3) (eBin powP (eC (.int 10)) (eC (.int 18)))) lNil))) (lCons (eName 4) (lCons (eBin gixP (eName 2) (eBin modP (eName 1) (eC (.int 8)))) lNil))))))))))
def f_law_draws : Fn := runFn 5 c_law_draws
--DEF _law_thing
def c_law_thing (self : Fn) : CS :=
    (sSeq (sLet 2 (eCall 2 f_law_draw (lCons (eName 0) (lCons (eC (.int 12)) lNil))))
    (sSeq (sIf (bVal (eBin ltP (eName 2) (eC (.int 4)))) (sRet (eBin gixP (eLst (lCons (eBin subP (eCall 2 f_law_draw (lCons (eName 0) (lCons (eC (.int 9)) lNil))) (eC (.int 2))) (lCons (eBin subP (eC (.int 0)) (eBin powP (eC (.int 10)) (eC (.int 39)))) (lCons (eCall 2 f_law_draw (lCons (eName 0) (lCons (eBin powP (eC (.int 10)) (eC (.int 9))) lNil))) (lCons (eC (.int 1)) lNil))))) (eName 2))) sNil)
    (sSeq (sIf (bVal (eBin ltP (eName 2) (eC (.int 7)))) (sRet (eBin gixP (eLst (lCons (eC (.bl true)) (lCons (eC (.bl false)) (lCons (eC .non) lNil)))) (eBin subP (eName 2) (eC (.int 4))))) sNil)
    (sSeq (sIf (bVal (eBin ltP (eName 2) (eC (.int 9)))) (sRet (eBin gixP (eLst (lCons (eC (dS "l")) (lCons (eC (dS "rl")) (lCons (eC (dS "uV")) (lCons (eC (dS "")) (lCons (eC (dS "1,0,0,1")) (lCons (eC (dS "7")) (lCons (eC (dS "-")) lNil)))))))) (eCall 2 f_law_draw (lCons (eName 0) (lCons (eC (.int 7)) lNil))))) sNil)
    (sSeq (sLet 3 (eComp 4 (iRng1' (lCons (eBin mulP (eCall 2 f_law_draw (lCons (eName 0) (lCons (eC (.int 6)) lNil))) (eCallB intP (lCons (eBin gtP (eName 1) (eC (.int 0))) lNil))) lNil)) bYes (eCall 2 self (lCons (eName 0) (lCons (eBin subP (eName 1) (eC (.int 1))) lNil)))))
    (sRet (eIf (bVal (eBin eqP (eName 2) (eC (.int 9)))) (eName 3) (eCallB tupleP (lCons (eName 3) lNil)))))))))
def f_law_thing : Nat → Fn
  | 0 => fun _ => .stuck
  | n + 1 => runFn 5 (c_law_thing (f_law_thing n))
--DEF _law_is_table
def c_law_is_table : CS :=
    (sRet (eAnd (eIsT .tuple (eName 0)) (eAnd (eBin eqP (eCallB lenP (lCons (eName 0) lNil)) (eC (.int 4))) (eBin nmP (eC (.bl false)) (eComp 1 (iAny (eName 0)) bYes (eCall 1 f_law_whole (lCons (eName 1) lNil)))))))
def f_law_is_table : Fn := runFn 2 c_law_is_table
--DEF _law_table
def c_law_table : CS :=
    (sSeq (sLet 1 (eCall 2 f_law_draw (lCons (eName 0) (lCons (eC (.int 5)) lNil))))
    (sSeq (sIf (bVal (eBin eqP (eName 1) (eC (.int 0)))) (sRet (eCallB tupleP (lCons (eComp 2 (iRng1' (lCons (eC (.int 4)) lNil)) bYes (eBin subP (eCall 2 f_law_draw (lCons (eName 0) (lCons (eC (.int 7)) lNil))) (eC (.int 3)))) lNil))) sNil)
    (sSeq (sIf (bVal (eBin eqP (eName 1) (eC (.int 1)))) (sRet (eCallB tupleP (lCons (eComp 2 (iRng1' (lCons (eC (.int 4)) lNil)) bYes (eCall 1 f_law_number (lCons (eName 0) lNil))) lNil))) sNil)
    (sSeq (sLet 3 (eMtS joinP (eC (dS "")) (lCons (eComp 2 (iRng1' (lCons (eCall 2 f_law_draw (lCons (eName 0) (lCons (eC (.int 60)) lNil))) lNil)) bYes (eBin gixP (eC (dS "lruvUV")) (eCall 2 f_law_draw (lCons (eName 0) (lCons (eBin gixP (eLst (lCons (eC (.int 2)) (lCons (eC (.int 6)) lNil))) (eBin modP (eName 1) (eC (.int 2)))) lNil))))) lNil)))
    (sSeq (sLet 4 (eCall 1 f_law_of_letters (lCons (eName 3) lNil)))
    (sSeq (sIf (bVal (eBin eqP (eName 1) (eC (.int 4)))) (sSeq (sLet 2 (eCall 2 f_law_draw (lCons (eName 0) (lCons (eC (.int 4)) lNil))))
    (sLet 4 (eBin addP (eBin addP (eSlice slD (eName 4) oNone (oSome (eName 2))) (eTup (lCons (eBin subP (eBin addP (eBin gixP (eName 4) (eName 2)) (eCall 2 f_law_draw (lCons (eName 0) (lCons (eC (.int 3)) lNil)))) (eC (.int 1))) lNil))) (eSlice slD (eName 4) (oSome (eBin addP (eName 2) (eC (.int 1)))) oNone)))) sNil)
    (sRet (eName 4))))))))
def f_law_table : Fn := runFn 5 c_law_table
--DEF is_plain
def cis_plain : CS :=
    (sRet (eAnd (eBin geP (eCallB min1P (lCons (eName 0) lNil)) (eC (.int 0))) (eBin eqP (eCall 1 fworth (lCons (eName 0) lNil)) (eC (.int 1)))))
def fis_plain : Fn := runFn 1 cis_plain
--DEF table_of
def ctable_of : CS :=
    (sSeq (sIf (bVal (eBin gtP (eCallB lenP (lCons (eName 0) lNil)) (eC (.int 400)))) (sRaise "NoWord") sNil)
    (sSeq (sLet 1 (eC (.ctup [.int 1, .int 0, .int 0, .int 1])))
    (sSeq (sFor (iAny (eName 0)) (gSet 2) (sSeq (sIf (bVal (eUn (nmGP [([108], .ctup [.int 1, .int 0, .int 1, .int 1]), ([114], .ctup [.int 1, .int 1, .int 0, .int 1])]) (eName 2))) (sRaise "NoWord") sNil)
    (sLet 1 (eCall 2 fproduct (lCons (eName 1) (lCons (eUn (getGP [([108], .ctup [.int 1, .int 0, .int 1, .int 1]), ([114], .ctup [.int 1, .int 1, .int 0, .int 1])]) (eName 2)) lNil))))))
    (sRet (eName 1)))))
def ftable_of : Fn := runFn 3 ctable_of
--DEF look_at_plain
def clook_at_plain : CS :=
    (sIf (bNot (bVal (eCall 1 fis_plain (lCons (eName 0) lNil)))) (sRaise "NoPlain") sNil)
def flook_at_plain : Fn := runFn 1 clook_at_plain
--DEF word_of
def cword_of : CS :=
    (sSeq (sExpr (eCall 1 flook_at_plain (lCons (eName 0) lNil)))
    (sSeq (sAsg (eName 0) (gTupD 4 (gsCons (gSet 1) (gsCons (gSet 2) (gsCons (gSet 3) (gsCons (gSet 4) gsNil))))))
    (sSeq (sSet 5 (eLst lNil))
    (sSeq (sWhile fuelW (bVal (eBin neP (eTup (lCons (eName 1) (lCons (eName 2) (lCons (eName 3) (lCons (eName 4) lNil))))) (eC (.ctup [.int 1, .int 0, .int 0, .int 1])))) (sSeq (sIf (bVal (eBin eqP (eCallB lenP (lCons (eName 5) lNil)) (eC (.int 400)))) (sRaise "TooLong") sNil)
    (sIf (bAnd (bVal (eBin geP (eName 1) (eName 3))) (bVal (eBin geP (eName 2) (eName 4)))) (sSeq (sExpr (eMut 5 isL appendM (lCons (eC (dS "r")) lNil)))
    (sPar 1 2 (lCons (eBin subP (eName 1) (eName 3)) (lCons (eBin subP (eName 2) (eName 4)) lNil)))) (sSeq (sExpr (eMut 5 isL appendM (lCons (eC (dS "l")) lNil)))
    (sPar 3 4 (lCons (eBin subP (eName 3) (eName 1)) (lCons (eBin subP (eName 4) (eName 2)) lNil)))))))
    (sRet (eMtS joinP (eC (dS "")) (lCons (eName 5) lNil)))))))
def fword_of : Fn := runFn 6 cword_of
--DEF _law_piece
def c_law_piece : CS :=
    (sSeq (sLet 2 (eCall 2 f_law_draw (lCons (eName 0) (lCons (eC (.int 4)) lNil))))
    (sSeq (sLet 3 (eBin addP (eC (.int 1)) (eCall 2 f_law_draw (lCons (eName 0) (lCons (eName 1) lNil)))))
    (sSeq (sLet 4 (eMtS joinP (eC (dS "")) (lCons (eComp 6 (iRng1' (lCons (eName 3) lNil)) bYes (eBin gixP (eC (dS "lr")) (eCall 2 f_law_draw (lCons (eName 0) (lCons (eC (.int 2)) lNil))))) lNil)))
    (sSeq (sLet 5 (eLst (lCons (eName 4) (lCons (eBin mulP (eBin gixP (eName 4) (eC (.int 0))) (eName 3)) (lCons (eSlice slD (eBin mulP (eC (dS "lr")) (eName 3)) oNone (oSome (eName 3))) (lCons (eSlice slD (eBin mulP (eSlice slD (eName 4) oNone (oSome (eC (.int 2)))) (eName 3)) oNone (oSome (eName 3))) lNil))))))
    (sRet (eBin gixP (eName 5) (eName 2)))))))
def f_law_piece : Fn := runFn 7 c_law_piece
--DEF _law_bent
def c_law_bent : CS :=
    (sSeq (sLet 2 (eC (dS " !\"#$&'()*+,-./0123456789:;<=>?@")))
    (sSeq (sLet 2 (eBin addP (eName 2) (eC (dS "ABCDEFGHIJKLMNOPQRSTUVWXYZ[\\]^_`abcdefghijklmnopqrstuvwxyz{|}~\n"))))
    (sSeq (sLet 3 (eCall 2 f_law_draw (lCons (eName 1) (lCons (eC (.int 4)) lNil))))
    (sSeq (sLet 4 (eBin gixP (eLst (lCons (eBin gixP (eName 2) (eCall 2 f_law_draw (lCons (eName 1) (lCons (eCallB lenP (lCons (eName 2) lNil)) lNil)))) (lCons (eBin gixP (eC (dS "- 0")) (eCall 2 f_law_draw (lCons (eName 1) (lCons (eC (.int 3)) lNil)))) lNil))) (eCall 2 f_law_draw (lCons (eName 1) (lCons (eC (.int 2)) lNil)))))
    (sSeq (sLet 5 (eCall 2 f_law_draw (lCons (eName 1) (lCons (eBin addP (eCallB lenP (lCons (eName 0) lNil)) (eC (.int 1))) lNil))))
    (sSeq (sIf (bVal (eBin ltP (eName 3) (eC (.int 2)))) (sRet (eBin addP (eBin addP (eSlice slD (eName 0) oNone (oSome (eName 5))) (eName 4)) (eSlice slD (eName 0) (oSome (eBin addP (eName 5) (eName 3))) oNone))) sNil)
    (sSeq (sIf (bVal (eBin eqP (eName 3) (eC (.int 2)))) (sRet (eBin addP (eSlice slD (eName 0) oNone (oSome (eName 5))) (eSlice slD (eName 0) (oSome (eBin addP (eName 5) (eC (.int 1)))) oNone))) sNil)
    (sRet (eBin addP (eSlice slD (eName 0) oNone (oSome (eBin addP (eName 5) (eC (.int 1))))) (eSlice slD (eName 0) (oSome (eName 5)) oNone))))))))))
def f_law_bent : Fn := runFn 6 c_law_bent
--DEF _law_bent_table
def c_law_bent_table : CS :=
    (sSeq (sLet 2 (eCall 2 f_law_draw (lCons (eName 0) (lCons (eC (.int 4)) lNil))))
    (sSeq (sLet 3 (eCall 2 f_law_draw (lCons (eName 0) (lCons (eC (.int 4)) lNil))))
    (sSeq (sSet 4 (eCallB listP (lCons (eName 1) lNil)))
    (sSeq (sIf (bVal (eBin eqP (eCall 2 f_law_draw (lCons (eName 0) (lCons (eC (.int 2)) lNil))) (eC (.int 0)))) (sSub 4 setM (eBin subP (eBin addP (eBin gixP (eName 4) (eName 2)) (eCall 2 f_law_draw (lCons (eName 0) (lCons (eC (.int 3)) lNil)))) (eC (.int 1))) (eName 2)) (sSeq (sSub 4 setM (eBin gixP (eName 1) (eName 3)) (eName 2))
    (sSub 4 setM (eBin gixP (eName 1) (eName 2)) (eName 3))))
    (sRet (eCallB tupleP (lCons (eName 4) lNil)))))))
def f_law_bent_table : Fn := runFn 5 c_law_bent_table
--DEF maker_word_rows
def cmaker_word_rows : CS :=
    (sSeq (sIf (bNot (bVal (eCall 1 fis_plain (lCons (eName 0) lNil)))) (sRaise "NoMakers") sNil)
    (sSeq (sTryR "TooLong" "NoMakers" (sLet 1 (eCall 1 fword_of (lCons (eName 0) lNil))))
    (sSeq (sIf (bNot (bVal (eChain leP leP (eC (.int 1)) (eCallB lenP (lCons (eName 1) lNil)) (eC (.int 40))))) (sRaise "NoMakers") sNil)
    (sRet (eName 1)))))
def fmaker_word_rows : Fn := runFn 2 cmaker_word_rows
--DEF words_of
def cwords_of : CS :=
    (sSeq (sIf (bNot (bVal (eChain leP leP (eC (.int 1)) (eCallB lenP (lCons (eName 0) lNil)) (eC (.int 8))))) (sRaise "NoMakers") sNil)
    (sRet (eCompX 1 (iAny (eName 0)) bYes (eCall 1 fmaker_word_rows (lCons (eName 1) lNil)))))
def fwords_of : Fn := runFn 2 cwords_of
--DEF rest_rows
def crest_rows : CS :=
    (sSeq (sSet 2 (eLst (lCons (eTup (lCons (eC (.int 0)) (lCons (eC (.int 1)) lNil))) lNil)))
    (sSeq (sFor (iRng3' (lCons (eBin subP (eCallB lenP (lCons (eName 1) lNil)) (eC (.int 1))) (lCons (eUn negP (eC (.int 1))) (lCons (eUn negP (eC (.int 1))) lNil)))) (gSet 3) (sSeq (sLet 4 (eC .non))
    (sSeq (sLet 5 (eC (.int 0)))
    (sSeq (sFor (iAny (eName 0)) (gSet 6) (sIf (bVal (eMtS startP (eName 1) (lCons (eName 6) (lCons (eName 3) lNil)))) (sSeq (sLet 7 (eBin gixP (eName 2) (eBin subP (eCallB lenP (lCons (eName 6) lNil)) (eC (.int 1)))))
    (sSeq (sLet 5 (eBin addP (eName 5) (eBin gixP (eName 7) (eC (.int 1)))))
    (sIf (bAnd (bVal (eBin noNP (eBin gixP (eName 7) (eC (.int 0))) (eC .non))) (bOr (bVal (eBin isNP (eName 4) (eC .non))) (bVal (eBin ltP (eBin addP (eBin gixP (eName 7) (eC (.int 0))) (eC (.int 1))) (eName 4))))) (sLet 4 (eBin addP (eBin gixP (eName 7) (eC (.int 0))) (eC (.int 1)))) sNil))) sNil))
    (sExpr (eMut 2 isL insertM (lCons (eC (.int 0)) (lCons (eTup (lCons (eName 4) (lCons (eName 5) lNil))) lNil))))))))
    (sRet (eName 2))))
def frest_rows : Fn := runFn 8 crest_rows
--DEF row_for
def crow_for : CS :=
    (sSeq (sLet 2 (eCall 2 frest_rows (lCons (eName 0) (lCons (eName 1) lNil))))
    (sSeq (sIf (bVal (eBin isNP (eBin gixP (eBin gixP (eName 2) (eC (.int 0))) (eC (.int 0))) (eC .non))) (sRet (eC .non)) sNil)
    (sSeq (sSet 3 (eLst lNil))
    (sSeq (sLet 4 (eC (.int 0)))
    (sSeq (sWhile fuelW (bVal (eBin ltP (eName 4) (eCallB lenP (lCons (eName 1) lNil)))) (sSeq (sLet 5 (eC (.int 0)))
    (sSeq (sWhile fuelW (bOr (bNot (bVal (eMtS startP (eName 1) (lCons (eBin gixP (eName 0) (eName 5)) (lCons (eName 4) lNil))))) (bVal (eBin neP (eBin gixP (eBin gixP (eName 2) (eBin addP (eName 4) (eCallB lenP (lCons (eBin gixP (eName 0) (eName 5)) lNil)))) (eC (.int 0))) (eBin subP (eBin gixP (eBin gixP (eName 2) (eName 4)) (eC (.int 0))) (eC (.int 1)))))) (sLet 5 (eBin addP (eName 5) (eC (.int 1)))))
    (sSeq (sExpr (eMut 3 isL appendM (lCons (eName 5) lNil)))
    (sLet 4 (eBin addP (eName 4) (eCallB lenP (lCons (eBin gixP (eName 0) (eName 5)) lNil))))))))
    (sRet (eName 3)))))))
def frow_for : Fn := runFn 6 crow_for
--DEF least_row
def cleast_row : CS :=
    (sSeq (sLet 2 (eCall 1 fwords_of (lCons (eName 0) lNil)))
    (sRet (eCall 2 frow_for (lCons (eName 2) (lCons (eCall 1 fword_of (lCons (eName 1) lNil)) lNil)))))
def fleast_row : Fn := runFn 3 cleast_row
--DEF many_rows
def cmany_rows : CS :=
    (sSeq (sLet 2 (eCall 1 fwords_of (lCons (eName 0) lNil)))
    (sRet (eBin gixP (eBin gixP (eCall 2 frest_rows (lCons (eName 2) (lCons (eCall 1 fword_of (lCons (eName 1) lNil)) lNil))) (eC (.int 0))) (eC (.int 1)))))
def fmany_rows : Fn := runFn 3 cmany_rows
--DEF reached
def creached : CS :=
    (sSeq (sLet 2 (eCall 1 fwords_of (lCons (eName 0) lNil)))
    (sSeq (sLet 3 (eCall 1 fword_of (lCons (eName 1) lNil)))
    (sSeq (sSet 4 (eLst (lCons (eC (.int 0)) lNil)))
    (sSeq (sFor (iRng2' (lCons (eC (.int 1)) (lCons (eBin addP (eCallB lenP (lCons (eName 3) lNil)) (eC (.int 1))) lNil))) (gSet 5) (sIf (bVal (eBin neP (eComp 6 (iAny (eName 2)) (bAnd (bVal (eBin memP (eBin subP (eName 5) (eCallB lenP (lCons (eName 6) lNil))) (eName 4))) (bVal (eMtS startP (eName 3) (lCons (eName 6) (lCons (eBin subP (eName 5) (eCallB lenP (lCons (eName 6) lNil))) lNil))))) (eName 6)) (eLst lNil))) (sExpr (eMut 4 isL appendM (lCons (eName 5) lNil))) sNil))
    (sRet (eName 4))))))
def freached : Fn := runFn 7 creached
--DEF _law_makers
def c_law_makers : CS :=
    (sSeq (sSet 1 (eLst lNil))
    (sSeq (sLet 2 (eBin gixP (eLst (lCons (eBin addP (eC (.int 1)) (eCall 2 f_law_draw (lCons (eName 0) (lCons (eC (.int 8)) lNil)))) (lCons (eC (.int 2)) (lCons (eC (.int 3)) lNil)))) (eCall 2 f_law_draw (lCons (eName 0) (lCons (eC (.int 3)) lNil)))))
    (sSeq (sLet 3 (eBin gixP (eLst (lCons (eC (.int 3)) (lCons (eC (.int 6)) (lCons (eC (.int 20)) (lCons (eC (.int 40)) lNil))))) (eCall 2 f_law_draw (lCons (eName 0) (lCons (eC (.int 4)) lNil)))))
    (sSeq (sFor (iRng1' (lCons (eName 2) lNil)) (gSet 4) (sSeq (sLet 5 (eCall 2 f_law_piece (lCons (eName 0) (lCons (eName 3) lNil))))
    (sSeq (sIf (bVal (eBin neP (eName 1) (eLst lNil))) (sSeq (sLet 6 (eBin gixP (eName 1) (eCall 2 f_law_draw (lCons (eName 0) (lCons (eCallB lenP (lCons (eName 1) lNil)) lNil)))))
    (sSeq (sLet 7 (eBin gixP (eName 1) (eCall 2 f_law_draw (lCons (eName 0) (lCons (eCallB lenP (lCons (eName 1) lNil)) lNil)))))
    (sSeq (sLet 8 (eCall 2 f_law_draw (lCons (eName 0) (lCons (eC (.int 8)) lNil))))
    (sIf (bVal (eBin ltP (eName 8) (eC (.int 4)))) (sLet 5 (eBin gixP (eLst (lCons (eBin addP (eName 6) (eName 7)) (lCons (eBin addP (eName 6) (eName 5)) (lCons (eBin addP (eName 5) (eName 6)) (lCons (eName 6) lNil))))) (eName 8))) sNil)))) sNil)
    (sExpr (eMut 1 isL appendM (lCons (eSlice slD (eName 5) oNone (oSome (eC (.int 40)))) lNil))))))
    (sRet (eName 1))))))
def f_law_makers : Fn := runFn 9 c_law_makers
--DEF _law_target
def c_law_target : CS :=
    (sSeq (sLet 3 (eC (dS "")))
    (sSeq (sFor (iRng1' (lCons (eCall 2 f_law_draw (lCons (eName 0) (lCons (eC (.int 12)) lNil))) lNil)) (gSet 4) (sSeq (sLet 5 (eBin gixP (eName 1) (eCall 2 f_law_draw (lCons (eName 0) (lCons (eCallB lenP (lCons (eName 1) lNil)) lNil)))))
    (sIf (bVal (eBin leP (eCallB lenP (lCons (eBin addP (eName 3) (eName 5)) lNil)) (eName 2))) (sLet 3 (eBin addP (eName 3) (eName 5))) sNil)))
    (sSeq (sLet 6 (eCall 2 f_law_draw (lCons (eName 0) (lCons (eC (.int 5)) lNil))))
    (sSeq (sLet 7 (eCall 2 f_law_draw (lCons (eName 0) (lCons (eBin addP (eCallB lenP (lCons (eName 3) lNil)) (eC (.int 1))) lNil))))
    (sSeq (sIf (bVal (eBin eqP (eName 6) (eC (.int 0)))) (sLet 3 (eBin addP (eBin addP (eSlice slD (eName 3) oNone (oSome (eName 7))) (eBin gixP (eC (dS "lr")) (eCall 2 f_law_draw (lCons (eName 0) (lCons (eC (.int 2)) lNil))))) (eSlice slD (eName 3) (oSome (eName 7)) oNone))) sNil)
    (sSeq (sIf (bVal (eBin eqP (eName 6) (eC (.int 1)))) (sLet 3 (eBin addP (eSlice slD (eName 3) oNone (oSome (eName 7))) (eSlice slD (eName 3) (oSome (eBin addP (eName 7) (eC (.int 1)))) oNone))) sNil)
    (sSeq (sIf (bVal (eBin eqP (eName 6) (eC (.int 2)))) (sLet 3 (eCall 2 f_law_piece (lCons (eName 0) (lCons (eName 2) lNil)))) sNil)
    (sRet (eSlice slD (eName 3) oNone (oSome (eName 2)))))))))))
def f_law_target : Fn := runFn 8 c_law_target
--DEF _law_counts
def c_law_counts : CS :=
    (sSeq (sSet 2 (eLst (lCons (eTup (lCons (eC (.int 0)) (lCons (eC (.int 1)) lNil))) lNil)))
    (sSeq (sFor (iRng2' (lCons (eC (.int 1)) (lCons (eBin addP (eCallB lenP (lCons (eName 1) lNil)) (eC (.int 1))) lNil))) (gSet 3) (sSeq (sLet 4 (eComp 6 (iAny (eName 0)) (bVal (eMtS endP (eSlice slD (eName 1) oNone (oSome (eName 3))) (lCons (eName 6) lNil))) (eBin subP (eName 3) (eCallB lenP (lCons (eName 6) lNil)))))
    (sSeq (sLet 5 (eComp 7 (iAny (eName 4)) (bVal (eBin noNP (eBin gixP (eBin gixP (eName 2) (eName 7)) (eC (.int 0))) (eC .non))) (eBin addP (eBin gixP (eBin gixP (eName 2) (eName 7)) (eC (.int 0))) (eC (.int 1)))))
    (sExpr (eMut 2 isL appendM (lCons (eTup (lCons (eIf (bVal (eBin neP (eName 5) (eLst lNil))) (eCallB min1P (lCons (eName 5) lNil)) (eC .non)) (lCons (eCallB sumP (lCons (eComp 7 (iAny (eName 4)) bYes (eBin gixP (eBin gixP (eName 2) (eName 7)) (eC (.int 1)))) lNil)) lNil))) lNil))))))
    (sRet (eName 2))))
def f_law_counts : Fn := runFn 8 c_law_counts
--DEF _law_first_row
def c_law_first_row : CS :=
    (sSeq (sLet 2 (eComp 9 (iAny (eName 0)) bYes (eUn revP (eName 9))))
    (sSeq (sLet 3 (eUn revP (eCall 2 f_law_counts (lCons (eName 2) (lCons (eUn revP (eName 1)) lNil)))))
    (sSeq (sIf (bVal (eBin isNP (eBin gixP (eBin gixP (eName 3) (eC (.int 0))) (eC (.int 0))) (eC .non))) (sRet (eC .non)) sNil)
    (sSeq (sSet 4 (eLst lNil))
    (sSeq (sLet 5 (eC (.int 0)))
    (sSeq (sWhile fuelW (bVal (eBin ltP (eName 5) (eCallB lenP (lCons (eName 1) lNil)))) (sSeq (sFor (iRng3' (lCons (eBin subP (eCallB lenP (lCons (eName 0) lNil)) (eC (.int 1))) (lCons (eUn negP (eC (.int 1))) (lCons (eUn negP (eC (.int 1))) lNil)))) (gSet 6) (sSeq (sLet 7 (eBin addP (eName 5) (eCallB lenP (lCons (eBin gixP (eName 0) (eName 6)) lNil))))
    (sIf (bAnd (bVal (eBin eqP (eSlice slD (eName 1) (oSome (eName 5)) (oSome (eName 7))) (eBin gixP (eName 0) (eName 6)))) (bVal (eBin eqP (eBin gixP (eBin gixP (eName 3) (eName 7)) (eC (.int 0))) (eBin subP (eBin gixP (eBin gixP (eName 3) (eName 5)) (eC (.int 0))) (eC (.int 1)))))) (sLet 8 (eName 6)) sNil)))
    (sSeq (sExpr (eMut 4 isL appendM (lCons (eName 8) lNil)))
    (sLet 5 (eBin addP (eName 5) (eCallB lenP (lCons (eBin gixP (eName 0) (eName 8)) lNil)))))))
    (sRet (eName 4))))))))
def f_law_first_row : Fn := runFn 10 c_law_first_row
--DEF rests_of
def crests_of : CS :=
    (sSeq (sIf (bVal (eMtS startP (eName 0) (lCons (eName 1) lNil))) (sRet (eLst (lCons (eSlice slD (eName 0) (oSome (eCallB lenP (lCons (eName 1) lNil))) oNone) lNil))) sNil)
    (sRet (eLst lNil)))
def frests_of : Fn := runFn 2 crests_of
--DEF first_left
def cfirst_left : CS :=
    (sSeq (sSet 1 (eNewDK))
    (sSeq (sFor (iEnu (eName 0)) (gTupD 2 (gsCons (gSet 2) (gsCons (gSet 3) gsNil))) (sFor (iEnu (eName 0)) (gTupD 2 (gsCons (gSet 4) (gsCons (gSet 5) gsNil))) (sIf (bVal (eBin neP (eName 4) (eName 2))) (sFor (iAny (eCall 2 frests_of (lCons (eName 3) (lCons (eName 5) lNil)))) (gSet 6) (sSub 1 setM (eC (.bl true)) (eName 6))) sNil)))
    (sRet (eName 1))))
def ffirst_left : Fn := runFn 7 cfirst_left
--DEF next_left
def cnext_left : CS :=
    (sSeq (sSet 2 (eLst lNil))
    (sSeq (sFor (iAny (eName 0)) (gSet 3) (sExpr (eMut 2 isL extendM (lCons (eBin addP (eCall 2 frests_of (lCons (eName 1) (lCons (eName 3) lNil))) (eCall 2 frests_of (lCons (eName 3) (lCons (eName 1) lNil)))) lNil))))
    (sRet (eName 2))))
def fnext_left : Fn := runFn 4 cnext_left
--DEF all_left
def call_left : CS :=
    (sSeq (sSet 1 (eCall 1 ffirst_left (lCons (eName 0) lNil)))
    (sSeq (sSet 2 (eCallB listP (lCons (eName 1) lNil)))
    (sSeq (sWhile fuelW (bVal (eBin neP (eName 2) (eLst lNil))) (sSeq (sLet 3 (eMut 2 isL popM lNil))
    (sIf (bVal (eBin neP (eName 3) (eC (dS "")))) (sFor (iAny (eCall 2 fnext_left (lCons (eName 0) (lCons (eName 3) lNil)))) (gSet 4) (sIf (bVal (eBin nmP (eName 4) (eName 1))) (sSeq (sSub 1 setM (eC (.bl true)) (eName 4))
    (sExpr (eMut 2 isL appendM (lCons (eName 4) lNil)))) sNil)) sNil)))
    (sRet (eCallB sortP (lCons (eCallB listP (lCons (eName 1) lNil)) lNil))))))
def fall_left : Fn := runFn 5 call_left
--DEF leftovers
def cleftovers : CS :=
    (sRet (eCall 1 fall_left (lCons (eCall 1 fwords_of (lCons (eName 0) lNil)) lNil)))
def fleftovers : Fn := runFn 1 cleftovers
--DEF let_by
def clet_by : CS :=
    (sSeq (sLet 2 (eCall 1 fwords_of (lCons (eName 0) lNil)))
    (sSeq (sIf (bOr (bVal (eBin memP (eC (dS "")) (eName 1))) (bVal (eBin neP (eComp 4 (iAny (eCall 1 ffirst_left (lCons (eName 2) lNil))) (bVal (eBin nmP (eName 4) (eName 1))) (eName 4)) (eLst lNil)))) (sRet (eC (.bl false))) sNil)
    (sSeq (sFor (iAny (eName 1)) (gSet 3) (sSeq (sIf (bVal (eBin neP (eComp 5 (iAny (eName 3)) (bVal (eBin nmP (eName 5) (eC (dS "lr")))) (eName 5)) (eLst lNil))) (sRet (eC (.bl false))) sNil)
    (sIf (bVal (eBin neP (eComp 4 (iAny (eCall 2 fnext_left (lCons (eName 2) (lCons (eName 3) lNil)))) (bVal (eBin nmP (eName 4) (eName 1))) (eName 4)) (eLst lNil))) (sRet (eC (.bl false))) sNil)))
    (sRet (eC (.bl true))))))
def flet_by : Fn := runFn 6 clet_by
--DEF begun
def cbegun : CS :=
    (sSeq (sSet 1 (eLst lNil))
    (sSeq (sFor (iRng1' (lCons (eCallB lenP (lCons (eName 0) lNil)) lNil)) (gSet 2) (sFor (iRng2' (lCons (eBin addP (eName 2) (eC (.int 1))) (lCons (eCallB lenP (lCons (eName 0) lNil)) lNil))) (gSet 3) (sSeq (sFor (iAny (eCall 2 frests_of (lCons (eBin gixP (eName 0) (eName 2)) (lCons (eBin gixP (eName 0) (eName 3)) lNil)))) (gSet 4) (sExpr (eMut 1 isL appendM (lCons (eTup (lCons (eCallB lenP (lCons (eBin gixP (eName 0) (eName 2)) lNil)) (lCons (eName 4) (lCons (eC (.int 0)) (lCons (eLst (lCons (eName 2) lNil)) (lCons (eLst (lCons (eName 3) lNil)) lNil)))))) lNil))))
    (sFor (iAny (eCall 2 frests_of (lCons (eBin gixP (eName 0) (eName 3)) (lCons (eBin gixP (eName 0) (eName 2)) lNil)))) (gSet 4) (sExpr (eMut 1 isL appendM (lCons (eTup (lCons (eCallB lenP (lCons (eBin gixP (eName 0) (eName 3)) lNil)) (lCons (eName 4) (lCons (eC (.int 1)) (lCons (eLst (lCons (eName 2) lNil)) (lCons (eLst (lCons (eName 3) lNil)) lNil)))))) lNil)))))))
    (sRet (eName 1))))
def fbegun : Fn := runFn 5 cbegun
--DEF further
def cfurther : CS :=
    (sSeq (sAsg (eName 1) (gTupD 5 (gsCons (gSet 2) (gsCons (gSet 3) (gsCons (gSet 4) (gsCons (gSet 5) (gsCons (gSet 6) gsNil)))))))
    (sSeq (sSet 7 (eLst lNil))
    (sSeq (sFor (iEnu (eName 0)) (gTupD 2 (gsCons (gSet 8) (gsCons (gSet 9) gsNil))) (sSeq (sLet 10 (eLst (lCons (eBin addP (eName 5) (eLst (lCons (eName 8) lNil))) (lCons (eName 6) lNil))))
    (sSeq (sIf (bVal (eBin eqP (eName 4) (eC (.int 0)))) (sLet 10 (eLst (lCons (eName 5) (lCons (eBin addP (eName 6) (eLst (lCons (eName 8) lNil))) lNil)))) sNil)
    (sSeq (sFor (iAny (eCall 2 frests_of (lCons (eName 3) (lCons (eName 9) lNil)))) (gSet 11) (sExpr (eMut 7 isL appendM (lCons (eTup (lCons (eName 2) (lCons (eName 11) (lCons (eName 4) (lCons (eBin gixP (eName 10) (eC (.int 0))) (lCons (eBin gixP (eName 10) (eC (.int 1))) lNil)))))) lNil))))
    (sFor (iAny (eCall 2 frests_of (lCons (eName 9) (lCons (eName 3) lNil)))) (gSet 11) (sExpr (eMut 7 isL appendM (lCons (eTup (lCons (eBin addP (eName 2) (eCallB lenP (lCons (eName 11) lNil))) (lCons (eName 11) (lCons (eBin subP (eC (.int 1)) (eName 4)) (lCons (eBin gixP (eName 10) (eC (.int 0))) (lCons (eBin gixP (eName 10) (eC (.int 1))) lNil)))))) lNil))))))))
    (sRet (eName 7)))))
def ffurther : Fn := runFn 12 cfurther
--DEF shortest_twins
def cshortest_twins : CS :=
    (sSeq (sSet 1 (eCall 1 fbegun (lCons (eName 0) lNil)))
    (sSeq (sSet 2 (eNewDT))
    (sSeq (sWhile fuelW (bVal (eBin neP (eName 1) (eLst lNil))) (sSeq (sLet 3 (eCallB min1P (lCons (eName 1) lNil)))
    (sSeq (sExpr (eMut 1 isL removeM (lCons (eName 3) lNil)))
    (sSeq (sIf (bVal (eBin eqP (eBin gixP (eName 3) (eC (.int 1))) (eC (dS "")))) (sRet (eTup (lCons (eBin gixP (eName 3) (eC (.int 3))) (lCons (eBin gixP (eName 3) (eC (.int 4))) lNil)))) sNil)
    (sIf (bVal (eBin nmP (eTup (lCons (eBin gixP (eName 3) (eC (.int 1))) (lCons (eBin gixP (eName 3) (eC (.int 2))) lNil))) (eName 2))) (sSeq (sSub 2 setM (eC (.bl true)) (eTup (lCons (eBin gixP (eName 3) (eC (.int 1))) (lCons (eBin gixP (eName 3) (eC (.int 2))) lNil))))
    (sExpr (eMut 1 isL extendM (lCons (eCall 2 ffurther (lCons (eName 0) (lCons (eName 3) lNil))) lNil)))) sNil)))))
    (sRet (eC .non)))))
def fshortest_twins : Fn := runFn 4 cshortest_twins
--DEF twins
def ctwins : CS :=
    (sRet (eCall 1 fshortest_twins (lCons (eCall 1 fwords_of (lCons (eName 0) lNil)) lNil)))
def ftwins : Fn := runFn 1 ctwins
--DEF needed
def cneeded : CS :=
    (sSeq (sLet 1 (eCall 1 fwords_of (lCons (eName 0) lNil)))
    (sSeq (sSet 2 (eLst lNil))
    (sSeq (sFor (iEnu (eName 1)) (gTupD 2 (gsCons (gSet 3) (gsCons (gSet 4) gsNil))) (sSeq (sLet 5 (eComp 6 (iAny (eName 1)) (bVal (eBin neP (eName 6) (eName 4))) (eName 6)))
    (sIf (bAnd (bVal (eBin nmP (eName 4) (eSlice slD (eName 1) oNone (oSome (eName 3))))) (bVal (eBin isNP (eCall 2 frow_for (lCons (eName 5) (lCons (eName 4) lNil))) (eC .non)))) (sExpr (eMut 2 isL appendM (lCons (eName 3) lNil))) sNil)))
    (sRet (eName 2)))))
def fneeded : Fn := runFn 7 cneeded
--DEF same
def csame : CS :=
    (sSeq (sLet 2 (eCall 1 fwords_of (lCons (eName 0) lNil)))
    (sSeq (sLet 3 (eCall 1 fwords_of (lCons (eName 1) lNil)))
    (sSeq (sIf (bVal (eBin neP (eComp 4 (iAny (eName 2)) (bVal (eBin isNP (eCall 2 frow_for (lCons (eName 3) (lCons (eName 4) lNil))) (eC .non))) (eName 4)) (eLst lNil))) (sRet (eC (.bl false))) sNil)
    (sRet (eBin eqP (eComp 4 (iAny (eName 3)) (bVal (eBin isNP (eCall 2 frow_for (lCons (eName 2) (lCons (eName 4) lNil))) (eC .non))) (eName 4)) (eLst lNil))))))
def fsame : Fn := runFn 5 csame
--DEF _law_firsts
def c_law_firsts : CS :=
    (sSeq (sLet 1 (eLst lNil))
    (sSeq (sFor (iRng1' (lCons (eCallB lenP (lCons (eName 0) lNil)) lNil)) (gSet 2) (sSeq (sLet 3 (eBin addP (eSlice slD (eName 0) oNone (oSome (eName 2))) (eSlice slD (eName 0) (oSome (eBin addP (eName 2) (eC (.int 1)))) oNone)))
    (sLet 1 (eBin addP (eName 1) (eComp 4 (iAny (eName 3)) (bVal (eMtS startP (eBin gixP (eName 0) (eName 2)) (lCons (eName 4) lNil))) (eSlice slD (eBin gixP (eName 0) (eName 2)) (oSome (eCallB lenP (lCons (eName 4) lNil))) oNone))))))
    (sRet (eName 1))))
def f_law_firsts : Fn := runFn 5 c_law_firsts
--DEF _law_after
def c_law_after : CS :=
    (sSeq (sSet 2 (eLst lNil))
    (sSeq (sFor (iAny (eName 0)) (gSet 3) (sSeq (sIf (bVal (eMtS startP (eName 1) (lCons (eName 3) lNil))) (sExpr (eMut 2 isL appendM (lCons (eSlice slD (eName 1) (oSome (eCallB lenP (lCons (eName 3) lNil))) oNone) lNil))) sNil)
    (sIf (bVal (eMtS startP (eName 3) (lCons (eName 1) lNil))) (sExpr (eMut 2 isL appendM (lCons (eSlice slD (eName 3) (oSome (eCallB lenP (lCons (eName 1) lNil))) oNone) lNil))) sNil)))
    (sRet (eName 2))))
def f_law_after : Fn := runFn 4 c_law_after
--DEF _law_left
def c_law_left : CS :=
    (sSeq (sLet 1 (eUn sortSetP (eCall 1 f_law_firsts (lCons (eName 0) lNil))))
    (sSeq (sLet 2 (eC (.int 0)))
    (sSeq (sWhile fuelW (bVal (eBin ltP (eName 2) (eCallB lenP (lCons (eName 1) lNil)))) (sSeq (sLet 3 (eIf (bVal (eBin eqP (eBin gixP (eName 1) (eName 2)) (eC (dS "")))) (eLst lNil) (eCall 2 f_law_after (lCons (eName 0) (lCons (eBin gixP (eName 1) (eName 2)) lNil)))))
    (sSeq (sLet 1 (eBin addP (eName 1) (eUn sortSetP (eComp 4 (iAny (eName 3)) (bVal (eBin nmP (eName 4) (eName 1))) (eName 4)))))
    (sLet 2 (eBin addP (eName 2) (eC (.int 1)))))))
    (sRet (eCallB sortP (lCons (eName 1) lNil))))))
def f_law_left : Fn := runFn 5 c_law_left
--DEF _law_let
def c_law_let : CS :=
    (sSeq (sIf (bOr (bVal (eBin memP (eC (dS "")) (eName 1))) (bVal (eBin neP (eComp 3 (iAny (eCall 1 f_law_firsts (lCons (eName 0) lNil))) (bVal (eBin nmP (eName 3) (eName 1))) (eName 3)) (eLst lNil)))) (sRet (eC (.bl false))) sNil)
    (sSeq (sFor (iAny (eName 1)) (gSet 2) (sSeq (sIf (bVal (eBin neP (eComp 4 (iAny (eName 2)) (bVal (eBin nmP (eName 4) (eC (dS "lr")))) (eName 4)) (eLst lNil))) (sRet (eC (.bl false))) sNil)
    (sIf (bVal (eBin neP (eComp 3 (iAny (eCall 2 f_law_after (lCons (eName 0) (lCons (eName 2) lNil)))) (bVal (eBin nmP (eName 3) (eName 1))) (eName 3)) (eLst lNil))) (sRet (eC (.bl false))) sNil)))
    (sRet (eC (.bl true)))))
def f_law_let : Fn := runFn 5 c_law_let
--DEF _law_papers
def c_law_papers : CS :=
    (sSeq (sLet 3 (eComp 9 (iAny (eName 2)) (bVal (eBin neP (eName 9) (eC (dS "")))) (eName 9)))
    (sSeq (sLet 4 (eCall 2 f_law_draw (lCons (eName 0) (lCons (eBin addP (eCallB lenP (lCons (eName 2) lNil)) (eC (.int 1))) lNil))))
    (sSeq (sLet 5 (eLst lNil))
    (sSeq (sFor (iAny (eName 1)) (gSet 6) (sLet 5 (eBin addP (eName 5) (eComp 11 (iRng1' (lCons (eCallB lenP (lCons (eName 6) lNil)) lNil)) bYes (eSlice slD (eName 6) (oSome (eName 11)) oNone)))))
    (sSeq (sLet 7 (eLst (lCons (eName 3) (lCons (eName 2) (lCons (eUn revP (eName 3)) (lCons (eBin addP (eSlice slD (eName 2) oNone (oSome (eName 4))) (eSlice slD (eName 2) (oSome (eBin addP (eName 4) (eC (.int 1)))) oNone)) (lCons (eBin addP (eBin addP (eSlice slD (eName 2) oNone (oSome (eName 4))) (eLst (lCons (eCall 2 f_law_piece (lCons (eName 0) (lCons (eC (.int 5)) lNil))) lNil))) (eSlice slD (eName 2) (oSome (eName 4)) oNone)) (lCons (eLst lNil) lNil))))))))
    (sSeq (sLet 8 (eComp 10 (iRng1' (lCons (eC (.int 500)) lNil)) bYes (eBin addP (eSlice slD (eBin mulP (eC (dS "lr")) (eC (.int 9))) oNone (oSome (eBin addP (eC (.int 1)) (eBin modP (eName 10) (eC (.int 17)))))) (eBin mulP (eC (dS "r")) (eBin fdivP (eName 10) (eC (.int 17)))))))
    (sSeq (sLet 7 (eBin addP (eName 7) (eLst (lCons (eBin addP (eName 3) (eName 8)) (lCons (eBin addP (eName 8) (eName 3)) (lCons (eBin addP (eName 3) (eLst (lCons (eBin addP (eBin mulP (eC (dS "l")) (eC (.int 300))) (eC (dS "r"))) lNil))) lNil))))))
    (sRet (eBin addP (eName 7) (eLst (lCons (eUn sortSetP (eName 5)) (lCons (eBin addP (eName 3) (eSlice slD (eName 3) oNone (oSome (eC (.int 1))))) (lCons (eBin addP (eName 3) (eLst (lCons (eC (dS "")) lNil))) (lCons (eBin addP (eName 3) (eLst (lCons (eCall 2 f_law_piece (lCons (eName 0) (lCons (eC (.int 3)) lNil))) lNil))) (lCons (eName 5) (lCons (eBin addP (eName 3) (eLst (lCons (eC (dS "la")) lNil))) lNil))))))))))))))))
def f_law_papers : Fn := runFn 12 c_law_papers
--DEF _law_shortest
def c_law_shortest : CS :=
    (sSeq (sSet 1 (eLst lNil))
    (sSeq (sFor (iRng1' (lCons (eCallB lenP (lCons (eName 0) lNil)) lNil)) (gSet 2) (sFor (iRng1' (lCons (eCallB lenP (lCons (eName 0) lNil)) lNil)) (gSet 3) (sIf (bAnd (bVal (eBin neP (eName 3) (eName 2))) (bVal (eMtS startP (eBin gixP (eName 0) (eName 2)) (lCons (eBin gixP (eName 0) (eName 3)) lNil)))) (sExpr (eMut 1 isL appendM (lCons (eTup (lCons (eCallB lenP (lCons (eBin gixP (eName 0) (eName 2)) lNil)) (lCons (eSlice slD (eBin gixP (eName 0) (eName 2)) (oSome (eCallB lenP (lCons (eBin gixP (eName 0) (eName 3)) lNil))) oNone) lNil))) lNil))) sNil)))
    (sSeq (sSet 4 (eNewDK))
    (sSeq (sWhile fuelW (bVal (eBin neP (eName 1) (eLst lNil))) (sSeq (sAsg (eCallB min1P (lCons (eName 1) lNil)) (gTupD 2 (gsCons (gSet 5) (gsCons (gSet 6) gsNil))))
    (sSeq (sExpr (eMut 1 isL removeM (lCons (eTup (lCons (eName 5) (lCons (eName 6) lNil))) lNil)))
    (sSeq (sIf (bVal (eBin eqP (eName 6) (eC (dS "")))) (sRet (eName 5)) sNil)
    (sIf (bVal (eBin nmP (eName 6) (eName 4))) (sSeq (sSub 4 setM (eName 5) (eName 6))
    (sFor (iAny (eName 0)) (gSet 7) (sSeq (sIf (bVal (eMtS startP (eName 6) (lCons (eName 7) lNil))) (sExpr (eMut 1 isL appendM (lCons (eTup (lCons (eName 5) (lCons (eSlice slD (eName 6) (oSome (eCallB lenP (lCons (eName 7) lNil))) oNone) lNil))) lNil))) sNil)
    (sIf (bVal (eMtS startP (eName 7) (lCons (eName 6) lNil))) (sExpr (eMut 1 isL appendM (lCons (eTup (lCons (eBin subP (eBin addP (eName 5) (eCallB lenP (lCons (eName 7) lNil))) (eCallB lenP (lCons (eName 6) lNil))) (lCons (eSlice slD (eName 7) (oSome (eCallB lenP (lCons (eName 6) lNil))) oNone) lNil))) lNil))) sNil)))) sNil)))))
    (sRet (eC .non))))))
def f_law_shortest : Fn := runFn 8 c_law_shortest
--DEF _law_pair_right
def c_law_pair_right : CS :=
    (sSeq (sIf (bOr (bNot (bVal (eIsT .tuple (eName 2)))) (bVal (eBin neP (eCallB lenP (lCons (eName 2) lNil)) (eC (.int 2))))) (sRet (eC (.bl false))) sNil)
    (sSeq (sFor (iAny (eName 2)) (gSet 4) (sIf (bOr (bNot (bVal (eIsT .list (eName 4)))) (bOr (bVal (eBin eqP (eName 4) (eLst lNil))) (bVal (eBin memP (eC (.bl false)) (eComp 6 (iAny (eName 4)) bYes (eAnd (eCall 1 f_law_whole (lCons (eName 6) lNil)) (eChain leP ltP (eC (.int 0)) (eName 6) (eCallB lenP (lCons (eName 0) lNil))))))))) (sRet (eC (.bl false))) sNil))
    (sSeq (sIf (bVal (eBin geP (eBin gixP (eBin gixP (eName 2) (eC (.int 0))) (eC (.int 0))) (eBin gixP (eBin gixP (eName 2) (eC (.int 1))) (eC (.int 0))))) (sRet (eC (.bl false))) sNil)
    (sSeq (sLet 5 (eCall 1 f_law_made (lCons (eComp 6 (iAny (eBin gixP (eName 2) (eC (.int 0)))) bYes (eBin gixP (eName 1) (eName 6))) lNil)))
    (sSeq (sIf (bVal (eBin neP (eCall 1 f_law_made (lCons (eComp 6 (iAny (eBin gixP (eName 2) (eC (.int 1)))) bYes (eBin gixP (eName 1) (eName 6))) lNil)) (eName 5))) (sRet (eC (.bl false))) sNil)
    (sSeq (sIf (bAnd (bVal (eBin leP (eName 3) (eC (.int 400)))) (bVal (eBin ltP (eCall 2 fmany_rows (lCons (eCallB listP (lCons (eName 1) lNil)) (lCons (eName 5) lNil))) (eC (.int 2))))) (sRet (eC (.bl false))) sNil)
    (sRet (eBin eqP (eCallB sumP (lCons (eComp 6 (iAny (eBin gixP (eName 2) (eC (.int 0)))) bYes (eCallB lenP (lCons (eBin gixP (eName 0) (eName 6)) lNil))) lNil)) (eName 3)))))))))
def f_law_pair_right : Fn := runFn 7 c_law_pair_right
--DEF _law_small_right
def c_law_small_right : CS :=
    (sSeq (sLet 1 (eComp 6 (iRng1' (lCons (eBin addP (eC (.int 1)) (eCall 2 f_law_draw (lCons (eName 0) (lCons (eC (.int 4)) lNil)))) lNil)) bYes (eCall 2 f_law_piece (lCons (eName 0) (lCons (eC (.int 3)) lNil)))))
    (sSeq (sLet 2 (eCall 1 ftwins (lCons (eComp 7 (iAny (eName 1)) bYes (eCall 1 f_law_of_letters (lCons (eName 7) lNil))) lNil)))
    (sSeq (sLet 3 (eLst (lCons (eC (dS "")) lNil)))
    (sSeq (sLet 4 (eC (.int 10)))
    (sSeq (sIf (bVal (eBin noNP (eName 2) (eC .non))) (sLet 4 (eCallB sumP (lCons (eComp 6 (iAny (eBin gixP (eName 2) (eC (.int 0)))) bYes (eCallB lenP (lCons (eBin gixP (eName 1) (eName 6)) lNil))) lNil))) sNil)
    (sSeq (sFor (iRng2' (lCons (eC (.int 1)) (lCons (eCallB min2P (lCons (eC (.int 10)) (lCons (eName 4) lNil))) lNil))) (gSet 5) (sSeq (sLet 3 (eBin addP (eComp 8 (iAny (eName 3)) bYes (eBin addP (eName 8) (eC (dS "l")))) (eComp 8 (iAny (eName 3)) bYes (eBin addP (eName 8) (eC (dS "r"))))))
    (sIf (bVal (eBin neP (eComp 8 (iAny (eName 3)) (bVal (eBin gtP (eBin gixP (eBin gixP (eCall 2 f_law_counts (lCons (eName 1) (lCons (eName 8) lNil))) (eUn negP (eC (.int 1)))) (eC (.int 1))) (eC (.int 1)))) (eName 8)) (eLst lNil))) (sRet (eC (.bl false))) sNil)))
    (sRet (eC (.bl true)))))))))
def f_law_small_right : Fn := runFn 9 c_law_small_right
--DEF _law_other
def c_law_other : CS :=
    (sSeq (sLet 3 (eCall 2 f_law_draw (lCons (eName 0) (lCons (eC (.int 5)) lNil))))
    (sSeq (sSet 4 (eLst lNil))
    (sSeq (sFor (iAny (eName 2)) (gSet 5) (sExpr (eMut 4 isL insertM (lCons (eCall 2 f_law_draw (lCons (eName 0) (lCons (eBin addP (eCallB lenP (lCons (eName 4) lNil)) (eC (.int 1))) lNil))) (lCons (eName 5) lNil)))))
    (sSeq (sLet 6 (eCall 2 f_law_draw (lCons (eName 0) (lCons (eCallB lenP (lCons (eName 4) lNil)) lNil))))
    (sSeq (sIf (bVal (eBin eqP (eName 3) (eC (.int 0)))) (sSet 4 (eBin addP (eName 4) (eLst (lCons (eSlice slD (eBin addP (eBin gixP (eName 4) (eName 6)) (eBin gixP (eName 4) (eCall 2 f_law_draw (lCons (eName 0) (lCons (eCallB lenP (lCons (eName 4) lNil)) lNil))))) oNone (oSome (eC (.int 40)))) (lCons (eBin gixP (eName 1) (eUn negP (eC (.int 1)))) lNil))))) sNil)
    (sSeq (sIf (bAnd (bVal (eBin eqP (eName 3) (eC (.int 1)))) (bVal (eBin gtP (eCallB lenP (lCons (eName 4) lNil)) (eC (.int 1))))) (sSet 4 (eBin addP (eSlice slD (eName 4) oNone (oSome (eName 6))) (eSlice slD (eName 4) (oSome (eBin addP (eName 6) (eC (.int 1)))) oNone))) sNil)
    (sSeq (sIf (bVal (eBin eqP (eName 3) (eC (.int 2)))) (sSub 4 setM (eCall 2 f_law_piece (lCons (eName 0) (lCons (eC (.int 4)) lNil))) (eName 6)) sNil)
    (sSeq (sIf (bVal (eBin eqP (eName 3) (eC (.int 3)))) (sSet 4 (eCall 1 f_law_makers (lCons (eName 0) lNil))) sNil)
    (sRet (eSlice slD (eName 4) oNone (oSome (eC (.int 8)))))))))))))
def f_law_other : Fn := runFn 7 c_law_other
--DEF count_of_rows
def ccount_of_rows : CS :=
    (sSeq (sLet 2 (eCall 1 fwords_of (lCons (eName 0) lNil)))
    (sSeq (sIf (bNot (bVal (eChain leP leP (eC (.int 0)) (eName 1) (eC (.int 400))))) (sRaise "NoCount") sNil)
    (sSeq (sSet 3 (eLst (lCons (eC (.int 1)) lNil)))
    (sSeq (sFor (iRng2' (lCons (eC (.int 1)) (lCons (eBin addP (eName 1) (eC (.int 1))) lNil))) (gSet 4) (sExpr (eMut 3 isL appendM (lCons (eCallB sumP (lCons (eComp 5 (iAny (eName 2)) (bVal (eBin leP (eCallB lenP (lCons (eName 5) lNil)) (eName 4))) (eBin gixP (eName 3) (eBin subP (eName 4) (eCallB lenP (lCons (eName 5) lNil))))) lNil)) lNil))))
    (sRet (eBin gixP (eName 3) (eName 1)))))))
def fcount_of_rows : Fn := runFn 6 ccount_of_rows
--DEF _law_rows_due
def c_law_rows_due : CS :=
    (sSeq (sSet 2 (eLst (lCons (eC (.int 1)) lNil)))
    (sSeq (sFor (iRng2' (lCons (eC (.int 1)) (lCons (eBin addP (eName 1) (eC (.int 1))) lNil))) (gSet 3) (sSeq (sLet 4 (eC (.int 0)))
    (sSeq (sFor (iAny (eName 0)) (gSet 5) (sIf (bVal (eBin leP (eCallB lenP (lCons (eName 5) lNil)) (eName 3))) (sLet 4 (eBin addP (eName 4) (eBin gixP (eName 2) (eBin subP (eName 3) (eCallB lenP (lCons (eName 5) lNil)))))) sNil))
    (sExpr (eMut 2 isL appendM (lCons (eName 4) lNil))))))
    (sRet (eName 2))))
def f_law_rows_due : Fn := runFn 6 c_law_rows_due
--DEF led_on
def cled_on : CS :=
    (sSeq (sSet 3 (eNewDK))
    (sSeq (sFor (iAny (eName 1)) (gSet 4) (sSeq (sLet 5 (eLst (lCons (eName 4) lNil)))
    (sSeq (sIf (bVal (eBin eqP (eName 4) (eC (dS "")))) (sLet 5 (eName 0)) sNil)
    (sFor (iAny (eName 5)) (gSet 6) (sIf (bVal (eBin eqP (eBin gixP (eName 6) (eC (.int 0))) (eName 2))) (sSub 3 setM (eC (.bl true)) (eSlice slD (eName 6) (oSome (eC (.int 1))) oNone)) sNil)))))
    (sRet (eCallB tupleP (lCons (eCallB sortP (lCons (eCallB listP (lCons (eName 3) lNil)) lNil)) lNil)))))
def fled_on : Fn := runFn 7 cled_on
--DEF _law_short_makers
def c_law_short_makers : CS :=
    (sSeq (sLet 3 (eCall 2 f_law_draw (lCons (eName 0) (lCons (eC (.int 5)) lNil))))
    (sSeq (sLet 4 (eBin addP (eC (.int 1)) (eCall 2 f_law_draw (lCons (eName 0) (lCons (eC (.int 5)) lNil)))))
    (sSeq (sSet 6 (eComp 5 (iRng1' (lCons (eName 4) lNil)) bYes (eCall 2 f_law_piece (lCons (eName 0) (lCons (eBin gixP (eLst (lCons (eC (.int 3)) (lCons (eName 1) lNil))) (eCall 2 f_law_draw (lCons (eName 0) (lCons (eC (.int 2)) lNil)))) lNil)))))
    (sSeq (sIf (bVal (eBin eqP (eName 3) (eC (.int 0)))) (sSet 6 (eSlice slD (eLst (lCons (eC (dS "ll")) (lCons (eC (dS "lr")) (lCons (eC (dS "rl")) (lCons (eC (dS "rr")) lNil))))) oNone (oSome (eBin addP (eC (.int 1)) (eCall 2 f_law_draw (lCons (eName 0) (lCons (eC (.int 4)) lNil))))))) sNil)
    (sSeq (sIf (bVal (eBin memP (eName 3) (eTup (lCons (eC (.int 1)) (lCons (eC (.int 2)) lNil))))) (sSeq (sSet 6 (eLst (lCons (eC (dS "l")) (lCons (eC (dS "r")) lNil))))
    (sFor (iRng1' (lCons (eCall 2 f_law_draw (lCons (eName 0) (lCons (eC (.int 6)) lNil))) lNil)) (gSet 5) (sSeq (sLet 7 (eCall 2 f_law_draw (lCons (eName 0) (lCons (eCallB lenP (lCons (eName 6) lNil)) lNil))))
    (sSeq (sLet 8 (eBin gixP (eName 6) (eName 7)))
    (sSet 6 (eBin addP (eBin addP (eSlice slD (eName 6) oNone (oSome (eName 7))) (eSlice slD (eName 6) (oSome (eBin addP (eName 7) (eC (.int 1)))) oNone)) (eLst (lCons (eBin addP (eName 8) (eC (dS "l"))) (lCons (eBin addP (eName 8) (eC (dS "r"))) lNil))))))))) sNil)
    (sSeq (sIf (bVal (eBin eqP (eName 3) (eC (.int 1)))) (sSet 6 (eComp 9 (iAny (eShare 6)) bYes (eUn revP (eName 9)))) sNil)
    (sSeq (sIf (bAnd (bVal (eBin eqP (eName 3) (eC (.int 3)))) (bVal (eBin gtP (eCallB lenP (lCons (eName 6) lNil)) (eC (.int 1))))) (sSub 6 setM (eBin addP (eBin gixP (eName 6) (eC (.int 1))) (eBin gixP (eName 6) (eCall 2 f_law_draw (lCons (eName 0) (lCons (eCallB lenP (lCons (eName 6) lNil)) lNil))))) (eC (.int 0))) sNil)
    (sSeq (sIf (bAnd (bVal (eBin eqP (eCall 2 f_law_draw (lCons (eName 0) (lCons (eC (.int 3)) lNil))) (eC (.int 0)))) (bVal (eBin gtP (eCallB lenP (lCons (eName 6) lNil)) (eC (.int 1))))) (sExpr (eMut 6 isL popM (lCons (eCall 2 f_law_draw (lCons (eName 0) (lCons (eCallB lenP (lCons (eName 6) lNil)) lNil))) lNil))) sNil)
    (sSeq (sSet 6 (eSlice slD (eComp 9 (iAny (eShare 6)) bYes (eSlice slD (eName 9) oNone (oSome (eName 1)))) oNone (oSome (eC (.int 8)))))
    (sSeq (sWhile fuelW (bVal (eBin gtP (eCallB sumP (lCons (eComp 9 (iAny (eShare 6)) bYes (eCallB lenP (lCons (eName 9) lNil))) lNil)) (eName 2))) (sExpr (eMut 6 isL popM lNil)))
    (sRet (eIf (bVal (eBin neP (eName 6) (eLst lNil))) (eName 6) (eLst (lCons (eC (dS "l")) lNil))))))))))))))
def f_law_short_makers : Fn := runFn 10 c_law_short_makers
--DEF divisor
def cdivisor : CS :=
    (sSeq (sWhile fuelW (bVal (eBin gtP (eName 1) (eC (.int 0)))) (sPar 0 1 (lCons (eName 1) (lCons (eBin modP (eName 0) (eName 1)) lNil))))
    (sRet (eName 0)))
def fdivisor : Fn := runFn 2 cdivisor
--DEF share
def cshare : CS :=
    (sSeq (sLet 1 (eCall 1 fwords_of (lCons (eName 0) lNil)))
    (sSeq (sLet 2 (eCallB max1P (lCons (eComp 5 (iAny (eName 1)) bYes (eCallB lenP (lCons (eName 5) lNil))) lNil)))
    (sSeq (sLet 3 (eCallB sumP (lCons (eComp 5 (iAny (eName 1)) bYes (eBin shlP (eC (.int 1)) (eBin subP (eName 2) (eCallB lenP (lCons (eName 5) lNil))))) lNil)))
    (sSeq (sLet 4 (eCall 2 fdivisor (lCons (eName 3) (lCons (eBin shlP (eC (.int 1)) (eName 2)) lNil))))
    (sRet (eTup (lCons (eBin fdivP (eName 3) (eName 4)) (lCons (eBin fdivP (eBin shlP (eC (.int 1)) (eName 2)) (eName 4)) lNil))))))))
def fshare : Fn := runFn 6 cshare
--DEF _law_share
def c_law_share : CS :=
    (sSeq (sLet 1 (eC (.int 1)))
    (sSeq (sFor (iRng1' (lCons (eCallB max1P (lCons (eComp 2 (iAny (eName 0)) bYes (eCallB lenP (lCons (eName 2) lNil))) lNil)) lNil)) (gSet 3) (sLet 1 (eBin mulP (eName 1) (eC (.int 2)))))
    (sSeq (sLet 4 (eC (.int 0)))
    (sSeq (sFor (iAny (eName 0)) (gSet 2) (sSeq (sLet 5 (eName 1))
    (sSeq (sFor (iAny (eName 2)) (gSet 6) (sLet 5 (eBin fdivP (eName 5) (eC (.int 2)))))
    (sLet 4 (eBin addP (eName 4) (eName 5))))))
    (sSeq (sWhile fuelW (bAnd (bVal (eBin eqP (eBin modP (eName 4) (eC (.int 2))) (eC (.int 0)))) (bVal (eBin gtP (eName 1) (eC (.int 1))))) (sSeq (sLet 4 (eBin fdivP (eName 4) (eC (.int 2))))
    (sLet 1 (eBin fdivP (eName 1) (eC (.int 2))))))
    (sRet (eTup (lCons (eName 4) (lCons (eName 1) lNil)))))))))
def f_law_share : Fn := runFn 7 c_law_share
--DEF stuck
def cstuck : CS :=
    (sSeq (sLet 1 (eCall 1 fwords_of (lCons (eName 0) lNil)))
    (sSeq (sIf (bVal (eBin gtP (eCallB sumP (lCons (eComp 2 (iAny (eName 1)) bYes (eCallB lenP (lCons (eName 2) lNil))) lNil)) (eC (.int 30)))) (sRaise "NoCount") sNil)
    (sSeq (sSet 3 (eNewDK))
    (sSeq (sFor (iAny (eName 1)) (gSet 2) (sFor (iRng1' (lCons (eCallB lenP (lCons (eName 2) lNil)) lNil)) (gSet 4) (sSub 3 setM (eC (.bl true)) (eSlice slD (eName 2) (oSome (eName 4)) oNone))))
    (sSeq (sLet 5 (eCallB tupleP (lCons (eCallB sortP (lCons (eBin addP (eLst (lCons (eC (dS "")) lNil)) (eCallB listP (lCons (eName 3) lNil))) lNil)) lNil)))
    (sSeq (sSet 6 (eDisp (lCons (eName 5) (lCons (eC (.bl true)) lNil))))
    (sSeq (sLet 7 (eLst (lCons (eTup (lCons (eC (dS "")) (lCons (eName 5) lNil))) lNil)))
    (sSeq (sWhile fuelW (bVal (eBin neP (eName 7) (eLst lNil))) (sSeq (sSet 8 (eLst lNil))
    (sSeq (sFor (iAny (eName 7)) (gTupD 2 (gsCons (gSet 9) (gsCons (gSet 10) gsNil))) (sFor (iAny (eC (dS "lr"))) (gSet 11) (sSeq (sLet 12 (eCall 3 fled_on (lCons (eName 1) (lCons (eName 10) (lCons (eName 11) lNil)))))
    (sSeq (sIf (bVal (eBin eqP (eName 12) (eTup lNil))) (sRet (eBin addP (eName 9) (eName 11))) sNil)
    (sIf (bVal (eBin nmP (eName 12) (eName 6))) (sSeq (sSub 6 setM (eC (.bl true)) (eName 12))
    (sExpr (eMut 8 isL appendM (lCons (eTup (lCons (eBin addP (eName 9) (eName 11)) (lCons (eName 12) lNil))) lNil)))) sNil)))))
    (sLet 7 (eShare 8)))))
    (sRet (eC .non))))))))))
def fstuck : Fn := runFn 13 cstuck
--DEF _law_ahead
def c_law_ahead : CS :=
    (sSeq (sLet 1 (eLst lNil))
    (sSeq (sLet 2 (eLst (lCons (eC (dS "")) lNil)))
    (sSeq (sFor (iRng1' (lCons (eC (.int 9)) lNil)) (gSet 3) (sSeq (sLet 2 (eCallB sortP (lCons (eBin addP (eComp 4 (iAny (eName 2)) bYes (eBin addP (eName 4) (eC (dS "l")))) (eComp 4 (iAny (eName 2)) bYes (eBin addP (eName 4) (eC (dS "r"))))) lNil)))
    (sLet 1 (eBin addP (eName 1) (eName 2)))))
    (sSeq (sIf (bOr (bVal (eBin isNP (eName 0) (eC .non))) (bVal (eBin gtP (eCallB lenP (lCons (eName 0) lNil)) (eC (.int 9))))) (sRet (eName 1)) sNil)
    (sRet (eComp 4 (iAny (eName 1)) (bOr (bVal (eBin ltP (eCallB lenP (lCons (eName 4) lNil)) (eCallB lenP (lCons (eName 0) lNil)))) (bAnd (bVal (eBin eqP (eCallB lenP (lCons (eName 4) lNil)) (eCallB lenP (lCons (eName 0) lNil)))) (bVal (eBin ltP (eName 4) (eName 0))))) (eName 4)))))))
def f_law_ahead : Fn := runFn 5 c_law_ahead
--DEF _law_first
def c_law_first : CS :=
    (sSeq (sLet 2 (eLst lNil))
    (sSeq (sFor (iRng1' (lCons (eCallB lenP (lCons (eName 0) lNil)) lNil)) (gSet 3) (sLet 2 (eBin addP (eName 2) (eComp 4 (iRng1' (lCons (eCallB lenP (lCons (eBin gixP (eName 0) (eName 3)) lNil)) lNil)) bYes (eTup (lCons (eName 3) (lCons (eName 4) lNil)))))))
    (sSeq (sSet 5 (eLst (lCons (eTup (lCons (eName 2) (lCons (eC (dS "")) lNil))) lNil)))
    (sSeq (sSet 6 (eDisp (lCons (eCallB tupleP (lCons (eName 2) lNil)) (lCons (eC (.bl true)) lNil))))
    (sSeq (sWhile fuelW (bAnd (bVal (eBin neP (eName 5) (eLst lNil))) (bVal (eBin ltP (eCallB lenP (lCons (eName 6) lNil)) (eName 1)))) (sSeq (sAsg (eMut 5 isL popM (lCons (eC (.int 0)) lNil)) (gTupD 2 (gsCons (gSet 7) (gsCons (gSet 8) gsNil))))
    (sFor (iAny (eC (dS "lr"))) (gSet 9) (sSeq (sSet 10 (eNewDK))
    (sSeq (sFor (iAny (eName 7)) (gTupD 2 (gsCons (gSet 3) (gsCons (gSet 4) gsNil))) (sIf (bAnd (bVal (eBin eqP (eBin gixP (eBin gixP (eName 0) (eName 3)) (eName 4)) (eName 9))) (bVal (eBin ltP (eBin addP (eName 4) (eC (.int 1))) (eCallB lenP (lCons (eBin gixP (eName 0) (eName 3)) lNil))))) (sSub 10 setM (eC (.bl true)) (eTup (lCons (eName 3) (lCons (eBin addP (eName 4) (eC (.int 1))) lNil)))) (sIf (bVal (eBin eqP (eBin gixP (eBin gixP (eName 0) (eName 3)) (eName 4)) (eName 9))) (sExpr (eMut 10 isDi updateM (lCons (eComp 11 (iRng1' (lCons (eCallB lenP (lCons (eName 0) lNil)) lNil)) bYes (eTup (lCons (eTup (lCons (eName 11) (lCons (eC (.int 0)) lNil))) (lCons (eC (.bl true)) lNil)))) lNil))) sNil)))
    (sSeq (sIf (bVal (eBin eqP (eName 10) (eNewDK))) (sRet (eBin addP (eName 8) (eName 9))) sNil)
    (sIf (bVal (eBin nmP (eCallB tupleP (lCons (eCallB sortP (lCons (eName 10) lNil)) lNil)) (eName 6))) (sSeq (sSub 6 setM (eC (.bl true)) (eCallB tupleP (lCons (eCallB sortP (lCons (eName 10) lNil)) lNil)))
    (sExpr (eMut 5 isL appendM (lCons (eTup (lCons (eCallB sortP (lCons (eName 10) lNil)) (lCons (eBin addP (eName 8) (eName 9)) lNil))) lNil)))) sNil)))))))
    (sRet (eIf (bVal (eBin neP (eName 5) (eLst lNil))) (eC (dS "-")) (eC .non))))))))
def f_law_first : Fn := runFn 12 c_law_first
--DEF needed_words
def cneeded_words : CS :=
    (sSeq (sSet 1 (eLst lNil))
    (sSeq (sFor (iAny (eUn sortSetP (eName 0))) (gSet 2) (sSeq (sLet 3 (eComp 4 (iAny (eName 0)) (bVal (eBin neP (eName 4) (eName 2))) (eName 4)))
    (sIf (bVal (eBin isNP (eCall 2 frow_for (lCons (eName 3) (lCons (eName 2) lNil))) (eC .non))) (sExpr (eMut 1 isL appendM (lCons (eName 2) lNil))) sNil)))
    (sRet (eName 1))))
def fneeded_words : Fn := runFn 5 cneeded_words
--DEF hull
def chull : CS :=
    (sSeq (sLet 1 (eCall 1 fneeded_words (lCons (eCall 1 fwords_of (lCons (eName 0) lNil)) lNil)))
    (sSeq (sLet 2 (eCall 1 fshortest_twins (lCons (eName 1) lNil)))
    (sSeq (sWhile fuelW (bVal (eBin noNP (eName 2) (eC .non))) (sSeq (sLet 3 (eBin gixP (eName 1) (eBin gixP (eBin gixP (eName 2) (eC (.int 0))) (eC (.int 0)))))
    (sSeq (sLet 4 (eBin gixP (eName 1) (eBin gixP (eBin gixP (eName 2) (eC (.int 1))) (eC (.int 0)))))
    (sSeq (sIf (bVal (eBin ltP (eCallB lenP (lCons (eName 3) lNil)) (eCallB lenP (lCons (eName 4) lNil)))) (sPar 3 4 (lCons (eName 4) (lCons (eName 3) lNil))) sNil)
    (sSeq (sLet 5 (eSlice slD (eName 3) (oSome (eCallB lenP (lCons (eName 4) lNil))) oNone))
    (sSeq (sLet 1 (eCall 1 fneeded_words (lCons (eBin addP (eComp 6 (iAny (eName 1)) (bVal (eBin neP (eName 6) (eName 3))) (eName 6)) (eLst (lCons (eName 5) lNil))) lNil)))
    (sLet 2 (eCall 1 fshortest_twins (lCons (eName 1) lNil)))))))))
    (sRet (eCompX 6 (iAny (eName 1)) bYes (eCall 1 ftable_of (lCons (eName 6) lNil)))))))
def fhull : Fn := runFn 7 chull
--DEF _law_twin_begins
def c_law_twin_begins : CS :=
    (sSeq (sSet 1 (eLst lNil))
    (sSeq (sFor (iAny (eName 0)) (gSet 2) (sFor (iAny (eName 0)) (gSet 3) (sIf (bAnd (bVal (eBin neP (eName 2) (eName 3))) (bVal (eMtS startP (eName 2) (lCons (eName 3) lNil)))) (sExpr (eMut 1 isL appendM (lCons (eTup (lCons (eSlice slD (eName 2) (oSome (eCallB lenP (lCons (eName 3) lNil))) oNone) (lCons (eName 2) (lCons (eName 3) lNil)))) lNil))) sNil)))
    (sSeq (sSet 4 (eNewDK))
    (sSeq (sWhile fuelW (bVal (eBin neP (eName 1) (eLst lNil))) (sSeq (sAsg (eMut 1 isL popM (lCons (eC (.int 0)) lNil)) (gTupD 3 (gsCons (gSet 5) (gsCons (gSet 2) (gsCons (gSet 3) gsNil)))))
    (sSeq (sIf (bVal (eBin eqP (eName 5) (eC (dS "")))) (sRet (eTup (lCons (eName 2) (lCons (eName 3) lNil)))) sNil)
    (sIf (bVal (eBin nmP (eTup (lCons (eName 5) (lCons (eName 2) (lCons (eName 3) lNil)))) (eName 4))) (sSeq (sSub 4 setM (eC (.bl true)) (eTup (lCons (eName 5) (lCons (eName 2) (lCons (eName 3) lNil)))))
    (sFor (iAny (eName 0)) (gSet 6) (sSeq (sIf (bVal (eMtS startP (eName 5) (lCons (eName 6) lNil))) (sExpr (eMut 1 isL appendM (lCons (eTup (lCons (eSlice slD (eName 5) (oSome (eCallB lenP (lCons (eName 6) lNil))) oNone) (lCons (eName 2) (lCons (eName 3) lNil)))) lNil))) sNil)
    (sIf (bVal (eMtS startP (eName 6) (lCons (eName 5) lNil))) (sExpr (eMut 1 isL appendM (lCons (eTup (lCons (eSlice slD (eName 6) (oSome (eCallB lenP (lCons (eName 5) lNil))) oNone) (lCons (eName 2) (lCons (eName 3) lNil)))) lNil))) sNil)))) sNil))))
    (sRet (eC .non))))))
def f_law_twin_begins : Fn := runFn 7 c_law_twin_begins
--DEF is_wide
def cis_wide : CS :=
    (sSeq (sAsg (eName 0) (gTupD 4 (gsCons (gSet 1) (gsCons (gSet 2) (gsCons (gSet 3) (gsCons (gSet 4) gsNil))))))
    (sRet (eAnd (eBin eqP (eCall 1 fworth (lCons (eName 0) lNil)) (eC (.int 1))) (eAnd (eBin eqP (eBin modP (eName 2) (eC (.int 2))) (eC (.int 0))) (eAnd (eBin eqP (eBin modP (eName 3) (eC (.int 2))) (eC (.int 0))) (eAnd (eBin eqP (eBin modP (eName 1) (eC (.int 4))) (eC (.int 1))) (eBin eqP (eBin modP (eName 4) (eC (.int 4))) (eC (.int 1)))))))))
def fis_wide : Fn := runFn 5 cis_wide
--DEF look_at_word
def clook_at_word : CS :=
    (sSeq (sIf (bVal (eBin gtP (eCallB lenP (lCons (eName 0) lNil)) (eC (.int 400)))) (sRaise "NoWord") sNil)
    (sFor (iAny (eName 0)) (gSet 1) (sIf (bVal (eUn (nmGP [([117], .ctup [.int 1, .int 2, .int 0, .int 1]), ([118], .ctup [.int 1, .int 0, .int 2, .int 1]), ([85], .ctup [.int 1, .int (-2), .int 0, .int 1]), ([86], .ctup [.int 1, .int 0, .int (-2), .int 1])]) (eName 1))) (sRaise "NoWord") sNil)))
def flook_at_word : Fn := runFn 2 clook_at_word
--DEF made_of
def cmade_of : CS :=
    (sSeq (sLet 1 (eC (.ctup [.int 1, .int 0, .int 0, .int 1])))
    (sSeq (sFor (iAny (eName 0)) (gSet 2) (sLet 1 (eCall 2 fproduct (lCons (eName 1) (lCons (eUn (getGP [([117], .ctup [.int 1, .int 2, .int 0, .int 1]), ([118], .ctup [.int 1, .int 0, .int 2, .int 1]), ([85], .ctup [.int 1, .int (-2), .int 0, .int 1]), ([86], .ctup [.int 1, .int 0, .int (-2), .int 1])]) (eName 2)) lNil)))))
    (sRet (eName 1))))
def fmade_of : Fn := runFn 3 cmade_of
--DEF wide_table
def cwide_table : CS :=
    (sSeq (sExpr (eCall 1 flook_at_word (lCons (eName 0) lNil)))
    (sRet (eCall 1 fmade_of (lCons (eName 0) lNil))))
def fwide_table : Fn := runFn 1 cwide_table
--DEF without_pairs
def cwithout_pairs : CS :=
    (sSeq (sSet 1 (eLst lNil))
    (sSeq (sFor (iAny (eName 0)) (gSet 2) (sIf (bAnd (bVal (eBin neP (eName 1) (eLst lNil))) (bVal (eBin eqP (eBin gixP (eName 1) (eUn negP (eC (.int 1)))) (eUn (getGP [([117], dS "U"), ([118], dS "V"), ([85], dS "u"), ([86], dS "v")]) (eName 2))))) (sExpr (eMut 1 isL popM lNil)) (sExpr (eMut 1 isL appendM (lCons (eName 2) lNil)))))
    (sRet (eMtS joinP (eC (dS "")) (lCons (eName 1) lNil)))))
def fwithout_pairs : Fn := runFn 3 cwithout_pairs
--DEF reduced
def creduced : CS :=
    (sSeq (sExpr (eCall 1 flook_at_word (lCons (eName 0) lNil)))
    (sRet (eCall 1 fwithout_pairs (lCons (eName 0) lNil))))
def freduced : Fn := runFn 1 creduced
--DEF nearest
def cnearest : CS :=
    (sSeq (sLet 2 (eBin fdivP (eName 0) (eBin mulP (eC (.int 2)) (eName 1))))
    (sSeq (sIf (bVal (eBin gtP (eCallB absP (lCons (eBin subP (eName 0) (eBin mulP (eBin mulP (eC (.int 2)) (eName 2)) (eName 1))) lNil)) (eCallB absP (lCons (eBin subP (eName 0) (eBin mulP (eBin mulP (eC (.int 2)) (eBin addP (eName 2) (eC (.int 1)))) (eName 1))) lNil)))) (sLet 2 (eBin addP (eName 2) (eC (.int 1)))) sNil)
    (sRet (eName 2))))
def fnearest : Fn := runFn 3 cnearest
--DEF powers
def cpowers : CS :=
    (sSeq (sIf (bVal (eBin ltP (eName 1) (eC (.int 0)))) (sRet (eBin mulP (eUn (getGP [([117], dS "U"), ([118], dS "V"), ([85], dS "u"), ([86], dS "v")]) (eName 0)) (eBin subP (eC (.int 0)) (eName 1)))) sNil)
    (sRet (eBin mulP (eName 0) (eName 1))))
def fpowers : Fn := runFn 2 cpowers
--DEF letters_of
def cletters_of : CS :=
    (sSeq (sAsg (eName 0) (gTupD 4 (gsCons (gSet 1) (gsCons (gSet 2) (gsCons (gSet 3) (gsCons (gSet 4) gsNil))))))
    (sSeq (sLet 5 (eC (dS "")))
    (sSeq (sWhile fuelW (bOr (bVal (eBin neP (eName 3) (eC (.int 0)))) (bVal (eBin neP (eName 2) (eC (.int 0))))) (sSeq (sLet 6 (eC (dS "u")))
    (sSeq (sIf (bVal (eBin eqP (eName 3) (eC (.int 0)))) (sLet 7 (eBin fdivP (eName 2) (eC (.int 2)))) (sIf (bVal (eBin gtP (eCallB absP (lCons (eName 1) lNil)) (eCallB absP (lCons (eName 3) lNil)))) (sLet 7 (eCall 2 fnearest (lCons (eName 1) (lCons (eName 3) lNil)))) (sSeq (sLet 6 (eC (dS "v")))
    (sLet 7 (eCall 2 fnearest (lCons (eName 3) (lCons (eName 1) lNil)))))))
    (sSeq (sIf (bVal (eBin gtP (eBin addP (eCallB lenP (lCons (eName 5) lNil)) (eCallB absP (lCons (eName 7) lNil))) (eC (.int 400)))) (sRaise "TooLong") sNil)
    (sSeq (sLet 5 (eBin addP (eName 5) (eCall 2 fpowers (lCons (eName 6) (lCons (eName 7) lNil)))))
    (sIf (bVal (eBin eqP (eName 6) (eC (dS "u")))) (sPar 1 2 (lCons (eBin subP (eName 1) (eBin mulP (eBin mulP (eC (.int 2)) (eName 7)) (eName 3))) (lCons (eBin subP (eName 2) (eBin mulP (eBin mulP (eC (.int 2)) (eName 7)) (eName 4))) lNil))) (sPar 3 4 (lCons (eBin subP (eName 3) (eBin mulP (eBin mulP (eC (.int 2)) (eName 7)) (eName 1))) (lCons (eBin subP (eName 4) (eBin mulP (eBin mulP (eC (.int 2)) (eName 7)) (eName 2))) lNil)))))))))
    (sRet (eName 5)))))
def fletters_of : Fn := runFn 8 cletters_of
--DEF wide_word
def cwide_word : CS :=
    (sSeq (sIf (bNot (bVal (eCall 1 fis_wide (lCons (eName 0) lNil)))) (sRaise "NoWide") sNil)
    (sRet (eCall 1 fletters_of (lCons (eName 0) lNil))))
def fwide_word : Fn := runFn 1 cwide_word
--DEF _law_other_way
def c_law_other_way : CS :=
    (sRet (eBin gixP (eDisp (lCons (eC (dS "u")) (lCons (eC (dS "U")) (lCons (eC (dS "v")) (lCons (eC (dS "V")) (lCons (eC (dS "U")) (lCons (eC (dS "u")) (lCons (eC (dS "V")) (lCons (eC (dS "v")) lNil))))))))) (eName 0)))
def f_law_other_way : Fn := runFn 1 c_law_other_way
--DEF _law_short
def c_law_short : CS :=
    (sSeq (sLet 1 (eC (dS "")))
    (sSeq (sFor (iAny (eName 0)) (gSet 2) (sIf (bAnd (bVal (eBin neP (eName 1) (eC (dS "")))) (bVal (eBin eqP (eBin gixP (eName 1) (eUn negP (eC (.int 1)))) (eCall 1 f_law_other_way (lCons (eName 2) lNil))))) (sLet 1 (eSlice slD (eName 1) oNone (oSome (eUn negP (eC (.int 1)))))) (sLet 1 (eBin addP (eName 1) (eName 2)))))
    (sRet (eName 1))))
def f_law_short : Fn := runFn 3 c_law_short
--DEF _law_text
def c_law_text : CS :=
    (sSeq (sLet 1 (eC (dS "")))
    (sSeq (sFor (iRng1' (lCons (eBin gixP (eLst (lCons (eBin addP (eC (.int 1)) (eCall 2 f_law_draw (lCons (eName 0) (lCons (eC (.int 9)) lNil)))) (lCons (eC (.int 130)) lNil))) (eCall 2 f_law_draw (lCons (eName 0) (lCons (eC (.int 2)) lNil)))) lNil)) (gSet 2) (sLet 1 (eBin addP (eName 1) (eBin mulP (eBin gixP (eC (dS "uvUV")) (eCall 2 f_law_draw (lCons (eName 0) (lCons (eC (.int 4)) lNil)))) (eBin gixP (eLst (lCons (eC (.int 1)) (lCons (eC (.int 1)) (lCons (eBin addP (eC (.int 1)) (eCall 2 f_law_draw (lCons (eName 0) (lCons (eC (.int 9)) lNil)))) lNil)))) (eCall 2 f_law_draw (lCons (eName 0) (lCons (eC (.int 3)) lNil))))))))
    (sRet (eSlice slD (eName 1) oNone (oSome (eBin gixP (eLst (lCons (eCall 2 f_law_draw (lCons (eName 0) (lCons (eC (.int 9)) lNil))) (lCons (eCall 2 f_law_draw (lCons (eName 0) (lCons (eC (.int 401)) lNil))) (lCons (eC (.int 400)) lNil)))) (eCall 2 f_law_draw (lCons (eName 0) (lCons (eC (.int 3)) lNil)))))))))
def f_law_text : Fn := runFn 3 c_law_text
--DEF _law_rests
def c_law_rests : CS :=
    (sSeq (sLet 2 (eCall 2 f_law_counts (lCons (eName 0) (lCons (eName 1) lNil))))
    (sSeq (sLet 3 (eLst lNil))
    (sSeq (sFor (iRng1' (lCons (eBin addP (eCallB lenP (lCons (eName 1) lNil)) (eC (.int 1))) lNil)) (gSet 4) (sIf (bVal (eBin noNP (eBin gixP (eBin gixP (eName 2) (eName 4)) (eC (.int 0))) (eC .non))) (sSeq (sLet 5 (eComp 6 (iAny (eName 0)) (bAnd (bVal (eBin gtP (eCallB lenP (lCons (eName 6) lNil)) (eBin subP (eCallB lenP (lCons (eName 1) lNil)) (eName 4)))) (bVal (eBin eqP (eSlice slD (eName 6) oNone (oSome (eBin subP (eCallB lenP (lCons (eName 1) lNil)) (eName 4)))) (eSlice slD (eName 1) (oSome (eName 4)) oNone)))) (eName 6)))
    (sLet 3 (eBin addP (eName 3) (eComp 6 (iAny (eName 5)) bYes (eSlice slD (eName 6) (oSome (eBin subP (eCallB lenP (lCons (eName 1) lNil)) (eName 4))) oNone))))) sNil))
    (sRet (eUn sortSetP (eName 3))))))
def f_law_rests : Fn := runFn 7 c_law_rests
--DEF _law_piece_read
def c_law_piece_read : CS :=
    (sSeq (sLet 3 (eBin addP (eCall 2 f_law_rests (lCons (eName 1) (lCons (eName 2) lNil))) (eLst (lCons (eC (dS "")) lNil))))
    (sSeq (sLet 4 (eBin gixP (eName 1) (eCall 2 f_law_draw (lCons (eName 0) (lCons (eCallB lenP (lCons (eName 1) lNil)) lNil)))))
    (sSeq (sLet 5 (eLst (lCons (eName 4) (lCons (eSlice slD (eName 4) oNone (oSome (eCall 2 f_law_draw (lCons (eName 0) (lCons (eBin addP (eCallB lenP (lCons (eName 4) lNil)) (eC (.int 1))) lNil))))) (lCons (eCall 2 f_law_piece (lCons (eName 0) (lCons (eC (.int 4)) lNil))) (lCons (eC (dS "")) (lCons (eBin gixP (eName 3) (eCall 2 f_law_draw (lCons (eName 0) (lCons (eCallB lenP (lCons (eName 3) lNil)) lNil)))) lNil)))))))
    (sRet (eBin gixP (eBin addP (eName 5) (eLst (lCons (eName 4) lNil))) (eCall 2 f_law_draw (lCons (eName 0) (lCons (eC (.int 6)) lNil))))))))
def f_law_piece_read : Fn := runFn 6 c_law_piece_read
--DEF _law_short_texts
def c_law_short_texts : CS :=
    (sSeq (sLet 1 (eLst lNil))
    (sSeq (sLet 2 (eLst (lCons (eC (dS "")) lNil)))
    (sSeq (sFor (iRng1' (lCons (eName 0) lNil)) (gSet 3) (sSeq (sLet 2 (eBin addP (eComp 4 (iAny (eName 2)) bYes (eBin addP (eName 4) (eC (dS "l")))) (eComp 4 (iAny (eName 2)) bYes (eBin addP (eName 4) (eC (dS "r"))))))
    (sLet 1 (eBin addP (eName 1) (eName 2)))))
    (sRet (eName 1)))))
def f_law_short_texts : Fn := runFn 5 c_law_short_texts
--DEF maker_word_graphs
def cmaker_word_graphs : CS :=
    (sSeq (sIf (bNot (bVal (eCall 1 fis_wide (lCons (eName 0) lNil)))) (sRaise "NoMakers") sNil)
    (sSeq (sTryR "TooLong" "NoMakers" (sLet 1 (eCall 1 fletters_of (lCons (eName 0) lNil))))
    (sSeq (sIf (bVal (eBin gtP (eCallB lenP (lCons (eName 1) lNil)) (eC (.int 10)))) (sRaise "NoMakers") sNil)
    (sRet (eName 1)))))
def fmaker_word_graphs : Fn := runFn 2 cmaker_word_graphs
--DEF wide_words
def cwide_words : CS :=
    (sSeq (sIf (bNot (bVal (eChain leP leP (eC (.int 1)) (eCallB lenP (lCons (eName 0) lNil)) (eC (.int 8))))) (sRaise "NoMakers") sNil)
    (sRet (eCompX 1 (iAny (eName 0)) bYes (eCall 1 fmaker_word_graphs (lCons (eName 1) lNil)))))
def fwide_words : Fn := runFn 2 cwide_words
--DEF negative
def cnegative : CS :=
    (sRet (eComp 1 (iAny (eUn revP (eName 0))) bYes (eBin subP (eC (.int 0)) (eName 1))))
def fnegative : Fn := runFn 2 cnegative
--DEF petals
def cpetals : CS :=
    (sSeq (sSet 1 (eLst lNil))
    (sSeq (sLet 2 (eC (.int 1)))
    (sSeq (sFor (iEnu (eName 0)) (gTupD 2 (gsCons (gSet 3) (gsCons (gSet 4) gsNil))) (sSeq (sLet 5 (eC (.int 0)))
    (sFor (iEnu (eName 4)) (gTupD 2 (gsCons (gSet 6) (gsCons (gSet 7) gsNil))) (sSeq (sLet 8 (eName 2))
    (sSeq (sIf (bVal (eBin eqP (eName 6) (eBin subP (eCallB lenP (lCons (eName 4) lNil)) (eC (.int 1))))) (sLet 8 (eC (.int 0))) (sLet 2 (eBin addP (eName 2) (eC (.int 1)))))
    (sSeq (sLet 9 (eBin mulP (eLst (lCons (eBin addP (eName 3) (eC (.int 1))) lNil)) (eCallB intP (lCons (eBin eqP (eName 6) (eC (.int 0))) lNil))))
    (sSeq (sIf (bVal (eBin memP (eName 7) (eC (dS "uv")))) (sExpr (eMut 1 isL appendM (lCons (eLst (lCons (eName 5) (lCons (eName 7) (lCons (eName 8) (lCons (eName 9) lNil))))) lNil))) (sExpr (eMut 1 isL appendM (lCons (eLst (lCons (eName 8) (lCons (eMtS0 lowerP (eName 7)) (lCons (eName 5) (lCons (eCall 1 fnegative (lCons (eName 9) lNil)) lNil))))) lNil))))
    (sLet 5 (eName 8)))))))))
    (sRet (eName 1)))))
def fpetals : Fn := runFn 10 cpetals
--DEF short
def cshort : CS :=
    (sSeq (sSet 1 (eLst lNil))
    (sSeq (sFor (iAny (eName 0)) (gSet 2) (sIf (bAnd (bVal (eBin neP (eName 1) (eLst lNil))) (bVal (eBin eqP (eBin gixP (eName 1) (eUn negP (eC (.int 1)))) (eBin subP (eC (.int 0)) (eName 2))))) (sExpr (eMut 1 isL popM lNil)) (sExpr (eMut 1 isL appendM (lCons (eName 2) lNil)))))
    (sRet (eName 1))))
def fshort : Fn := runFn 3 cshort
--DEF clash
def cclash : CS :=
    (sSeq (sSet 1 (eNewDT))
    (sSeq (sFor (iEnu (eName 0)) (gTupD 2 (gsCons (gSet 2) (gsCons (gSet 3) gsNil))) (sFor (iAny (eTup (lCons (eTup (lCons (eC (.int 0)) (lCons (eC (.int 2)) lNil))) (lCons (eTup (lCons (eC (.int 2)) (lCons (eC (.int 0)) lNil))) lNil)))) (gTupD 2 (gsCons (gSet 4) (gsCons (gSet 5) gsNil))) (sSeq (sLet 6 (eTup (lCons (eBin gixP (eName 3) (eName 4)) (lCons (eBin gixP (eName 3) (eC (.int 1))) (lCons (eName 4) lNil)))))
    (sSeq (sIf (bVal (eBin memP (eName 6) (eName 1))) (sRet (eTup (lCons (eBin gixP (eName 1) (eName 6)) (lCons (eName 2) (lCons (eName 5) lNil))))) sNil)
    (sSub 1 setM (eName 2) (eName 6))))))
    (sRet (eC .non))))
def fclash : Fn := runFn 7 cclash
--DEF moved
def cmoved : CS :=
    (sFor (iAny (eName 0)) (gSet 4) (sSeq (sIf (bVal (eBin eqP (eBin gixP (eName 4) (eC (.int 0))) (eName 1))) (sSeq (sSub 4 setM (eName 2) (eC (.int 0)))
    (sSub 4 setM (eCall 1 fshort (lCons (eBin addP (eCall 1 fnegative (lCons (eName 3) lNil)) (eBin gixP (eName 4) (eC (.int 3)))) lNil)) (eC (.int 3)))) sNil)
    (sIf (bVal (eBin eqP (eBin gixP (eName 4) (eC (.int 2))) (eName 1))) (sSeq (sSub 4 setM (eName 2) (eC (.int 2)))
    (sSub 4 setM (eCall 1 fshort (lCons (eBin addP (eBin gixP (eName 4) (eC (.int 3))) (eName 3)) lNil)) (eC (.int 3)))) sNil)))
def fmoved : Fn := runFn 5 cmoved
--DEF joined
def cjoined : CS :=
    (sSeq (sLet 4 (eCall 1 fshort (lCons (eBin addP (eCall 1 fnegative (lCons (eBin gixP (eName 2) (eC (.int 3))) lNil)) (eBin gixP (eName 1) (eC (.int 3)))) lNil)))
    (sSeq (sIf (bVal (eBin eqP (eName 3) (eC (.int 0)))) (sLet 4 (eCall 1 fshort (lCons (eBin addP (eBin gixP (eName 2) (eC (.int 3))) (eCall 1 fnegative (lCons (eBin gixP (eName 1) (eC (.int 3))) lNil))) lNil))) sNil)
    (sExpr (eCall 4 fmoved (lCons (eName 0) (lCons (eBin gixP (eName 2) (eName 3)) (lCons (eBin gixP (eName 1) (eName 3)) (lCons (eName 4) lNil))))))))
def fjoined : Fn := runFn 5 cjoined
--DEF folded
def cfolded : CS :=
    (sSeq (sLet 1 (eC .non))
    (sSeq (sLet 2 (eCall 1 fclash (lCons (eName 0) lNil)))
    (sSeq (sWhile fuelW (bVal (eBin noNP (eName 2) (eC .non))) (sSeq (sAsg (eName 2) (gTupD 3 (gsCons (gSet 3) (gsCons (gSet 4) (gsCons (gSet 5) gsNil)))))
    (sSeq (sIf (bAnd (bVal (eBin eqP (eBin gixP (eBin gixP (eName 0) (eName 3)) (eName 5)) (eBin gixP (eBin gixP (eName 0) (eName 4)) (eName 5)))) (bVal (eBin isNP (eName 1) (eC .non)))) (sLet 1 (eTup (lCons (eCallB listP (lCons (eBin gixP (eName 0) (eName 3)) lNil)) (lCons (eCallB listP (lCons (eBin gixP (eName 0) (eName 4)) lNil)) (lCons (eComp 6 (iAny (eName 0)) bYes (eCallB listP (lCons (eName 6) lNil))) lNil))))) sNil)
    (sSeq (sIf (bVal (eBin neP (eBin gixP (eBin gixP (eName 0) (eName 3)) (eName 5)) (eBin gixP (eBin gixP (eName 0) (eName 4)) (eName 5)))) (sSeq (sIf (bVal (eBin eqP (eBin gixP (eBin gixP (eName 0) (eName 4)) (eName 5)) (eC (.int 0)))) (sPar 3 4 (lCons (eName 4) (lCons (eName 3) lNil))) sNil)
    (sExpr (eCall 4 fjoined (lCons (eName 0) (lCons (eBin gixP (eName 0) (eName 3)) (lCons (eBin gixP (eName 0) (eName 4)) (lCons (eName 5) lNil))))))) (sIf (bVal (eBin gtP (eCallB lenP (lCons (eBin gixP (eBin gixP (eName 0) (eName 3)) (eC (.int 3))) lNil)) (eCallB lenP (lCons (eBin gixP (eBin gixP (eName 0) (eName 4)) (eC (.int 3))) lNil)))) (sPar 3 4 (lCons (eName 4) (lCons (eName 3) lNil))) sNil))
    (sSeq (sExpr (eMut 0 isL popM (lCons (eName 4) lNil)))
    (sLet 2 (eCall 1 fclash (lCons (eName 0) lNil))))))))
    (sRet (eTup (lCons (eName 0) (lCons (eName 1) lNil)))))))
def ffolded : Fn := runFn 7 cfolded
--DEF numbered
def cnumbered : CS :=
    (sSeq (sSet 1 (eNewDT))
    (sSeq (sFor (iAny (eName 0)) (gSet 2) (sSeq (sSub 1 setM (eBin gixP (eName 2) (eC (.int 2))) (eTup (lCons (eBin gixP (eName 2) (eC (.int 0))) (lCons (eBin gixP (eName 2) (eC (.int 1))) lNil))))
    (sSub 1 setM (eBin gixP (eName 2) (eC (.int 0))) (eTup (lCons (eBin gixP (eName 2) (eC (.int 2))) (lCons (eMtS0 upperP (eBin gixP (eName 2) (eC (.int 1)))) lNil))))))
    (sSeq (sSet 3 (eDisp (lCons (eC (.int 0)) (lCons (eC (.int 0)) lNil))))
    (sSeq (sSet 4 (eLst (lCons (eC (.int 0)) lNil)))
    (sSeq (sSet 5 (eLst lNil))
    (sSeq (sWhile fuelW (bVal (eBin ltP (eCallB lenP (lCons (eName 5) lNil)) (eCallB lenP (lCons (eName 4) lNil)))) (sSeq (sSet 6 (eLst lNil))
    (sSeq (sFor (iAny (eC (dS "uvUV"))) (gSet 7) (sSeq (sLet 8 (eDGet (eName 1) (eTup (lCons (eBin gixP (eName 4) (eCallB lenP (lCons (eName 5) lNil))) (lCons (eName 7) lNil)))))
    (sSeq (sIf (bAnd (bVal (eBin noNP (eName 8) (eC .non))) (bVal (eBin nmP (eName 8) (eName 3)))) (sSeq (sSub 3 setM (eCallB lenP (lCons (eName 4) lNil)) (eName 8))
    (sExpr (eMut 4 isL appendM (lCons (eName 8) lNil)))) sNil)
    (sExpr (eMut 6 isL appendM (lCons (eDGet (eName 3) (eName 8)) lNil))))))
    (sExpr (eMut 5 isL appendM (lCons (eCallB tupleP (lCons (eName 6) lNil)) lNil))))))
    (sRet (eName 5))))))))
def fnumbered : Fn := runFn 9 cnumbered
--DEF graph_of
def cgraph_of : CS :=
    (sRet (eCall 1 fnumbered (lCons (eBin gixP (eCall 1 ffolded (lCons (eComp 1 (iAny (eCall 1 fpetals (lCons (eCall 1 fwide_words (lCons (eName 0) lNil)) lNil))) bYes (eBin addP (eSlice slD (eName 1) oNone (oSome (eC (.int 3)))) (eLst (lCons (eLst lNil) lNil)))) lNil)) (eC (.int 0))) lNil)))
def fgraph_of : Fn := runFn 2 cgraph_of
--DEF gone
def cgone : CS :=
    (sSeq (sLet 2 (eC (.int 0)))
    (sSeq (sFor (iAny (eName 1)) (gSet 3) (sSeq (sLet 2 (eBin gixP (eBin gixP (eName 0) (eName 2)) (eMtS sindexP (eC (dS "uvUV")) (lCons (eName 3) lNil))))
    (sIf (bVal (eBin isNP (eName 2) (eC .non))) (sRet (eC .non)) sNil)))
    (sRet (eName 2))))
def fgone : Fn := runFn 4 cgone
--DEF closes
def ccloses : CS :=
    (sRet (eBin eqP (eCall 2 fgone (lCons (eName 0) (lCons (eName 1) lNil))) (eC (.int 0))))
def fcloses : Fn := runFn 2 ccloses
--DEF rank_of
def crank_of : CS :=
    (sSeq (sLet 1 (eC (.int 0)))
    (sSeq (sFor (iAny (eName 0)) (gSet 2) (sLet 1 (eBin addP (eName 1) (eCallB lenP (lCons (eComp 3 (iAny (eSlice slD (eName 2) oNone (oSome (eC (.int 2))))) (bVal (eBin noNP (eName 3) (eC .non))) (eName 3)) lNil)))))
    (sRet (eBin addP (eBin subP (eName 1) (eCallB lenP (lCons (eName 0) lNil))) (eC (.int 1))))))
def frank_of : Fn := runFn 4 crank_of
--DEF rank
def crank : CS :=
    (sRet (eCall 1 frank_of (lCons (eCall 1 fgraph_of (lCons (eName 0) lNil)) lNil)))
def frank : Fn := runFn 1 crank
--DEF index
def cindex : CS :=
    (sSeq (sLet 1 (eCall 1 fgraph_of (lCons (eName 0) lNil)))
    (sSeq (sIf (bVal (eBin neP (eComp 2 (iAny (eName 1)) (bVal (eBin memP (eC .non) (eName 2))) (eName 2)) (eLst lNil))) (sRet (eC .non)) sNil)
    (sRet (eCallB lenP (lCons (eName 1) lNil)))))
def findex : Fn := runFn 3 cindex
--DEF _law_back_word
def c_law_back_word : CS :=
    (sRet (eMtS joinP (eC (dS "")) (lCons (eComp 1 (iAny (eUn revP (eName 0))) bYes (eCall 1 f_law_other_way (lCons (eName 1) lNil))) lNil)))
def f_law_back_word : Fn := runFn 2 c_law_back_word
--DEF _law_wide_text
def c_law_wide_text : CS :=
    (sSeq (sLet 2 (eC (dS "")))
    (sSeq (sFor (iRng1' (lCons (eBin addP (eC (.int 1)) (eCall 2 f_law_draw (lCons (eName 0) (lCons (eName 1) lNil)))) lNil)) (gSet 3) (sLet 2 (eBin addP (eName 2) (eBin mulP (eBin gixP (eC (dS "uvUV")) (eCall 2 f_law_draw (lCons (eName 0) (lCons (eC (.int 4)) lNil)))) (eBin gixP (eLst (lCons (eC (.int 1)) (lCons (eC (.int 1)) (lCons (eBin addP (eC (.int 1)) (eCall 2 f_law_draw (lCons (eName 0) (lCons (eC (.int 4)) lNil)))) lNil)))) (eCall 2 f_law_draw (lCons (eName 0) (lCons (eC (.int 3)) lNil))))))))
    (sSeq (sIf (bVal (eBin eqP (eCall 2 f_law_draw (lCons (eName 0) (lCons (eC (.int 3)) lNil))) (eC (.int 0)))) (sSeq (sLet 4 (eSlice slD (eName 2) oNone (oSome (eBin addP (eC (.int 1)) (eCall 2 f_law_draw (lCons (eName 0) (lCons (eC (.int 4)) lNil)))))))
    (sLet 2 (eBin addP (eBin addP (eName 4) (eName 2)) (eCall 1 f_law_back_word (lCons (eName 4) lNil))))) sNil)
    (sRet (eSlice slD (eCall 1 f_law_short (lCons (eName 2) lNil)) oNone (oSome (eName 1)))))))
def f_law_wide_text : Fn := runFn 5 c_law_wide_text
--DEF _law_wide_makers
def c_law_wide_makers : CS :=
    (sSeq (sSet 2 (eLst lNil))
    (sSeq (sLet 3 (eBin gixP (eLst (lCons (eBin addP (eC (.int 1)) (eCall 2 f_law_draw (lCons (eName 0) (lCons (eC (.int 4)) lNil)))) (lCons (eBin addP (eC (.int 1)) (eCall 2 f_law_draw (lCons (eName 0) (lCons (eC (.int 8)) lNil)))) lNil))) (eBin fdivP (eCall 2 f_law_draw (lCons (eName 0) (lCons (eC (.int 4)) lNil))) (eC (.int 3)))))
    (sSeq (sIf (bVal (eBin gtP (eName 3) (eC (.int 4)))) (sLet 1 (eC (.int 8))) sNil)
    (sSeq (sFor (iRng1' (lCons (eName 3) lNil)) (gSet 4) (sSeq (sLet 5 (eCall 2 f_law_wide_text (lCons (eName 0) (lCons (eBin gixP (eLst (lCons (eC (.int 3)) (lCons (eC (.int 6)) (lCons (eName 1) lNil)))) (eCall 2 f_law_draw (lCons (eName 0) (lCons (eC (.int 3)) lNil)))) lNil))))
    (sSeq (sIf (bVal (eBin neP (eName 2) (eLst lNil))) (sSeq (sLet 6 (eBin gixP (eName 2) (eCall 2 f_law_draw (lCons (eName 0) (lCons (eCallB lenP (lCons (eName 2) lNil)) lNil)))))
    (sSeq (sLet 7 (eBin gixP (eName 2) (eCall 2 f_law_draw (lCons (eName 0) (lCons (eCallB lenP (lCons (eName 2) lNil)) lNil)))))
    (sSeq (sLet 8 (eCall 2 f_law_draw (lCons (eName 0) (lCons (eC (.int 8)) lNil))))
    (sIf (bVal (eBin ltP (eName 8) (eC (.int 4)))) (sLet 5 (eCall 1 f_law_short (lCons (eBin gixP (eLst (lCons (eBin addP (eName 6) (eName 7)) (lCons (eBin addP (eName 6) (eName 5)) (lCons (eBin addP (eName 6) (eCall 1 f_law_back_word (lCons (eName 7) lNil))) (lCons (eBin addP (eName 5) (eName 6)) lNil))))) (eName 8)) lNil))) sNil)))) sNil)
    (sExpr (eMut 2 isL appendM (lCons (eCall 1 f_law_short (lCons (eSlice slD (eName 5) oNone (oSome (eName 1))) lNil)) lNil))))))
    (sRet (eName 2))))))
def f_law_wide_makers : Fn := runFn 9 c_law_wide_makers
--DEF _law_basis
def c_law_basis : CS :=
    (sSeq (sSet 1 (eBin addP (eLst (lCons (eC (dS "")) lNil)) (eBin mulP (eLst (lCons (eC .non) lNil)) (eBin subP (eCallB lenP (lCons (eName 0) lNil)) (eC (.int 1))))))
    (sSeq (sSet 2 (eLst lNil))
    (sSeq (sFor (iRng1' (lCons (eCallB lenP (lCons (eName 0) lNil)) lNil)) (gSet 3) (sFor (iRng1' (lCons (eC (.int 4)) lNil)) (gSet 4) (sSeq (sLet 5 (eBin gixP (eBin gixP (eName 0) (eName 3)) (eName 4)))
    (sIf (bAnd (bVal (eBin noNP (eName 5) (eC .non))) (bVal (eBin isNP (eBin gixP (eName 1) (eName 5)) (eC .non)))) (sSeq (sSub 1 setM (eBin addP (eBin gixP (eName 1) (eName 3)) (eBin gixP (eC (dS "uvUV")) (eName 4))) (eName 5))
    (sExpr (eMut 2 isDi appendM (lCons (eBin gixP (eLst (lCons (eTup (lCons (eName 3) (lCons (eName 4) lNil))) (lCons (eTup (lCons (eName 5) (lCons (eBin subP (eName 4) (eC (.int 2))) lNil))) lNil))) (eBin fdivP (eName 4) (eC (.int 2)))) lNil)))) sNil))))
    (sSeq (sSet 6 (eLst lNil))
    (sSeq (sFor (iRng1' (lCons (eCallB lenP (lCons (eName 0) lNil)) lNil)) (gSet 3) (sFor (iRng1' (lCons (eC (.int 2)) lNil)) (gSet 4) (sSeq (sLet 5 (eBin gixP (eBin gixP (eName 0) (eName 3)) (eName 4)))
    (sIf (bAnd (bVal (eBin noNP (eName 5) (eC .non))) (bVal (eBin nmP (eTup (lCons (eName 3) (lCons (eName 4) lNil))) (eName 2)))) (sSeq (sLet 7 (eBin addP (eBin gixP (eName 1) (eName 3)) (eBin gixP (eC (dS "uv")) (eName 4))))
    (sExpr (eMut 6 isL appendM (lCons (eCall 1 f_law_short (lCons (eBin addP (eName 7) (eCall 1 f_law_back_word (lCons (eBin gixP (eName 1) (eName 5)) lNil))) lNil)) lNil)))) sNil))))
    (sRet (eName 6)))))))
def f_law_basis : Fn := runFn 8 c_law_basis
--DEF _law_graph
def c_law_graph : CS :=
    (sSeq (sSet 1 (eLst (lCons (eC (.int 0)) lNil)))
    (sSeq (sSet 2 (eLst lNil))
    (sSeq (sWhile fuelW (bVal (eBin ltP (eCallB lenP (lCons (eName 2) lNil)) (eCallB lenP (lCons (eName 1) lNil)))) (sSeq (sSet 3 (eLst lNil))
    (sSeq (sFor (iAny (eC (dS "uvUV"))) (gSet 4) (sSeq (sLet 5 (eDGet (eName 0) (eTup (lCons (eBin gixP (eName 1) (eCallB lenP (lCons (eName 2) lNil))) (lCons (eName 4) lNil)))))
    (sSeq (sIf (bAnd (bVal (eBin noNP (eName 5) (eC .non))) (bVal (eBin nmP (eName 5) (eName 1)))) (sExpr (eMut 1 isL appendM (lCons (eName 5) lNil))) sNil)
    (sExpr (eMut 3 isL appendM (lCons (eIf (bVal (eBin isNP (eName 5) (eC .non))) (eC .non) (eMtL lindexP (eName 1) (lCons (eName 5) lNil))) lNil))))))
    (sExpr (eMut 2 isL appendM (lCons (eCallB tupleP (lCons (eName 3) lNil)) lNil))))))
    (sRet (eName 2)))))
def f_law_graph : Fn := runFn 6 c_law_graph
--DEF _law_row_text
def c_law_row_text : CS :=
    (sSeq (sLet 2 (eC (dS "")))
    (sSeq (sFor (iAny (eName 1)) (gSet 3) (sSeq (sLet 4 (eBin gixP (eName 0) (eBin subP (eCallB max2P (lCons (eName 3) (lCons (eBin subP (eC (.int 0)) (eName 3)) lNil))) (eC (.int 1)))))
    (sLet 2 (eBin addP (eName 2) (eBin gixP (eLst (lCons (eCall 1 f_law_back_word (lCons (eName 4) lNil)) (lCons (eName 4) lNil))) (eCallB intP (lCons (eBin gtP (eName 3) (eC (.int 0))) lNil)))))))
    (sRet (eCall 1 f_law_short (lCons (eName 2) lNil)))))
def f_law_row_text : Fn := runFn 5 c_law_row_text
--DEF _law_signed
def c_law_signed : CS :=
    (sRet (eComp 2 (iRng1' (lCons (eCall 2 f_law_draw (lCons (eName 0) (lCons (eC (.int 9)) lNil))) lNil)) bYes (eBin mulP (eBin gixP (eLst (lCons (eC (.int 1)) (lCons (eUn negP (eC (.int 1))) lNil))) (eCall 2 f_law_draw (lCons (eName 0) (lCons (eC (.int 2)) lNil)))) (eBin addP (eC (.int 1)) (eCall 2 f_law_draw (lCons (eName 0) (lCons (eName 1) lNil)))))))
def f_law_signed : Fn := runFn 3 c_law_signed
--DEF _law_gone
def c_law_gone : CS :=
    (sSeq (sLet 2 (eC (.int 0)))
    (sSeq (sFor (iAny (eName 1)) (gSet 3) (sLet 2 (eIf (bVal (eBin isNP (eName 2) (eC .non))) (eC .non) (eBin gixP (eBin gixP (eName 0) (eName 2)) (eMtS sindexP (eC (dS "uvUV")) (lCons (eName 3) lNil))))))
    (sRet (eName 2))))
def f_law_gone : Fn := runFn 4 c_law_gone
--DEF _law_counted
def c_law_counted : CS :=
    (sSeq (sLet 1 (eCallB sumP (lCons (eComp 3 (iAny (eName 0)) bYes (eCallB lenP (lCons (eComp 4 (iAny (eSlice slD (eName 3) oNone (oSome (eC (.int 2))))) (bVal (eBin noNP (eName 4) (eC .non))) (eName 4)) lNil))) lNil)))
    (sSeq (sLet 2 (eBin eqP (eComp 3 (iAny (eName 0)) (bVal (eBin memP (eC .non) (eName 3))) (eName 3)) (eLst lNil)))
    (sRet (eTup (lCons (eBin addP (eBin subP (eName 1) (eCallB lenP (lCons (eName 0) lNil))) (eC (.int 1))) (lCons (eIf (bVal (eName 2)) (eCallB lenP (lCons (eName 0) lNil)) (eC .non)) lNil))))))
def f_law_counted : Fn := runFn 5 c_law_counted
--DEF is_graph
def cis_graph : CS :=
    (sSeq (sIf (bVal (eBin eqP (eName 0) (eLst lNil))) (sRet (eC (.bl false))) sNil)
    (sSeq (sFor (iEnu (eName 0)) (gTupD 2 (gsCons (gSet 1) (gsCons (gSet 2) gsNil))) (sFor (iEnu (eName 2)) (gTupD 2 (gsCons (gSet 3) (gsCons (gSet 4) gsNil))) (sIf (bVal (eBin noNP (eName 4) (eC .non))) (sIf (bOr (bNot (bVal (eChain leP ltP (eC (.int 0)) (eName 4) (eCallB lenP (lCons (eName 0) lNil))))) (bVal (eBin neP (eBin gixP (eBin gixP (eName 0) (eName 4)) (eBin modP (eBin addP (eName 3) (eC (.int 2))) (eC (.int 4)))) (eName 1)))) (sRet (eC (.bl false))) sNil) sNil)))
    (sRet (eC (.bl true)))))
def fis_graph : Fn := runFn 5 cis_graph
--DEF bars
def cbars : CS :=
    (sSeq (sLet 3 (eCall 1 fwide_words (lCons (eName 0) lNil)))
    (sSeq (sLet 4 (eCall 1 fwide_word (lCons (eName 1) lNil)))
    (sSeq (sIf (bOr (bNot (bVal (eCall 1 fis_graph (lCons (eName 2) lNil)))) (bVal (eBin neP (eComp 5 (iAny (eName 3)) (bNot (bVal (eCall 2 fcloses (lCons (eName 2) (lCons (eName 5) lNil))))) (eName 5)) (eLst lNil)))) (sRet (eC (.bl false))) sNil)
    (sRet (eNot (eCall 2 fcloses (lCons (eName 2) (lCons (eName 4) lNil))))))))
def fbars : Fn := runFn 6 cbars
--DEF row_made
def crow_made : CS :=
    (sSeq (sExpr (eCall 1 fwide_words (lCons (eName 0) lNil)))
    (sSeq (sLet 2 (eC (.ctup [.int 1, .int 0, .int 0, .int 1])))
    (sSeq (sFor (iAny (eName 1)) (gSet 3) (sSeq (sLet 4 (eBin gixP (eName 0) (eBin subP (eCallB absP (lCons (eName 3) lNil)) (eC (.int 1)))))
    (sSeq (sIf (bVal (eBin ltP (eName 3) (eC (.int 0)))) (sLet 4 (eCall 1 fback (lCons (eName 4) lNil))) sNil)
    (sLet 2 (eCall 2 fproduct (lCons (eName 2) (lCons (eName 4) lNil)))))))
    (sRet (eName 2)))))
def frow_made : Fn := runFn 5 crow_made
--DEF row_along
def crow_along : CS :=
    (sSeq (sSet 2 (eNewDT))
    (sSeq (sFor (iAny (eName 0)) (gSet 3) (sSeq (sSub 2 setM (eTup (lCons (eBin gixP (eName 3) (eC (.int 2))) (lCons (eBin gixP (eName 3) (eC (.int 3))) lNil))) (eTup (lCons (eBin gixP (eName 3) (eC (.int 0))) (lCons (eBin gixP (eName 3) (eC (.int 1))) lNil))))
    (sSub 2 setM (eTup (lCons (eBin gixP (eName 3) (eC (.int 0))) (lCons (eCall 1 fnegative (lCons (eBin gixP (eName 3) (eC (.int 3))) lNil)) lNil))) (eTup (lCons (eBin gixP (eName 3) (eC (.int 2))) (lCons (eMtS0 upperP (eBin gixP (eName 3) (eC (.int 1)))) lNil))))))
    (sSeq (sLet 4 (eC (.int 0)))
    (sSeq (sLet 5 (eLst lNil))
    (sSeq (sFor (iAny (eName 1)) (gSet 6) (sSeq (sIf (bVal (eBin nmP (eTup (lCons (eName 4) (lCons (eName 6) lNil))) (eName 2))) (sRet (eC .non)) sNil)
    (sSeq (sAsg (eBin gixP (eName 2) (eTup (lCons (eName 4) (lCons (eName 6) lNil)))) (gTupD 2 (gsCons (gSet 4) (gsCons (gSet 7) gsNil))))
    (sLet 5 (eCall 1 fshort (lCons (eBin addP (eName 5) (eName 7)) lNil))))))
    (sSeq (sIf (bVal (eBin neP (eName 4) (eC (.int 0)))) (sRet (eC .non)) sNil)
    (sRet (eName 5))))))))
def frow_along : Fn := runFn 8 crow_along
--DEF signed_row
def csigned_row : CS :=
    (sSeq (sLet 2 (eCall 1 fwide_words (lCons (eName 0) lNil)))
    (sSeq (sLet 3 (eCall 1 fwide_word (lCons (eName 1) lNil)))
    (sRet (eCall 2 frow_along (lCons (eBin gixP (eCall 1 ffolded (lCons (eCall 1 fpetals (lCons (eName 2) lNil)) lNil)) (eC (.int 0))) (lCons (eName 3) lNil))))))
def fsigned_row : Fn := runFn 4 csigned_row
--DEF _law_short_row
def c_law_short_row : CS :=
    (sSeq (sSet 1 (eLst lNil))
    (sSeq (sFor (iAny (eName 0)) (gSet 2) (sIf (bAnd (bVal (eBin neP (eName 1) (eLst lNil))) (bVal (eBin eqP (eBin gixP (eName 1) (eUn negP (eC (.int 1)))) (eBin subP (eC (.int 0)) (eName 2))))) (sExpr (eMut 1 isL popM lNil)) (sExpr (eMut 1 isL appendM (lCons (eName 2) lNil)))))
    (sRet (eName 1))))
def f_law_short_row : Fn := runFn 3 c_law_short_row
--DEF _law_product
def c_law_product : CS :=
    (sSeq (sLet 2 (eTup (lCons (eC (.int 1)) (lCons (eC (.int 0)) (lCons (eC (.int 0)) (lCons (eC (.int 1)) lNil))))))
    (sSeq (sFor (iAny (eName 1)) (gSet 3) (sSeq (sLet 4 (eBin gixP (eName 0) (eBin subP (eCallB max2P (lCons (eName 3) (lCons (eBin subP (eC (.int 0)) (eName 3)) lNil))) (eC (.int 1)))))
    (sSeq (sIf (bVal (eBin ltP (eName 3) (eC (.int 0)))) (sLet 4 (eTup (lCons (eBin gixP (eName 4) (eC (.int 3))) (lCons (eBin subP (eC (.int 0)) (eBin gixP (eName 4) (eC (.int 1)))) (lCons (eBin subP (eC (.int 0)) (eBin gixP (eName 4) (eC (.int 2)))) (lCons (eBin gixP (eName 4) (eC (.int 0))) lNil)))))) sNil)
    (sLet 2 (eCall 2 f_law_times (lCons (eName 2) (lCons (eName 4) lNil)))))))
    (sRet (eName 2))))
def f_law_product : Fn := runFn 5 c_law_product
--DEF _law_row_right
def c_law_row_right : CS :=
    (sSeq (sIf (bOr (bNot (bVal (eIsT .list (eName 1)))) (bVal (eBin memP (eC (.bl false)) (eComp 3 (iAny (eName 1)) bYes (eCall 1 f_law_whole (lCons (eName 3) lNil)))))) (sRet (eC (.bl false))) sNil)
    (sSeq (sIf (bVal (eBin neP (eComp 3 (iAny (eName 1)) (bOr (bVal (eBin eqP (eName 3) (eC (.int 0)))) (bNot (bVal (eChain leP leP (eBin subP (eC (.int 0)) (eCallB lenP (lCons (eName 0) lNil))) (eName 3) (eCallB lenP (lCons (eName 0) lNil)))))) (eName 3)) (eLst lNil))) (sRet (eC (.bl false))) sNil)
    (sRet (eAnd (eBin eqP (eCall 1 f_law_short_row (lCons (eName 1) lNil)) (eName 1)) (eBin eqP (eCall 2 f_law_product (lCons (eName 0) (lCons (eName 1) lNil))) (eName 2))))))
def f_law_row_right : Fn := runFn 4 c_law_row_right
--DEF _law_is_graph
def c_law_is_graph : CS :=
    (sSeq (sFor (iRng1' (lCons (eCallB lenP (lCons (eName 0) lNil)) lNil)) (gSet 1) (sFor (iRng1' (lCons (eC (.int 4)) lNil)) (gSet 2) (sSeq (sLet 3 (eBin gixP (eBin gixP (eName 0) (eName 1)) (eName 2)))
    (sIf (bVal (eBin noNP (eName 3) (eC .non))) (sIf (bOr (bVal (eBin ltP (eName 3) (eC (.int 0)))) (bOr (bVal (eBin geP (eName 3) (eCallB lenP (lCons (eName 0) lNil)))) (bVal (eBin neP (eBin gixP (eBin gixP (eName 0) (eName 3)) (eBin modP (eBin addP (eName 2) (eC (.int 2))) (eC (.int 4)))) (eName 1))))) (sRet (eC (.bl false))) sNil) sNil))))
    (sRet (eBin neP (eName 0) (eLst lNil))))
def f_law_is_graph : Fn := runFn 4 c_law_is_graph
--DEF row_to
def crow_to : CS :=
    (sSeq (sSet 2 (eDisp (lCons (eC (.int 0)) (lCons (eLst lNil) lNil))))
    (sSeq (sWhile fuelW (bVal (eBin nmP (eName 1) (eName 2))) (sFor (iAny (eName 0)) (gSet 3) (sSeq (sIf (bAnd (bVal (eBin memP (eBin gixP (eName 3) (eC (.int 0))) (eName 2))) (bVal (eBin nmP (eBin gixP (eName 3) (eC (.int 2))) (eName 2)))) (sSub 2 setM (eBin addP (eBin gixP (eName 2) (eBin gixP (eName 3) (eC (.int 0)))) (eBin gixP (eName 3) (eC (.int 3)))) (eBin gixP (eName 3) (eC (.int 2)))) sNil)
    (sIf (bAnd (bVal (eBin memP (eBin gixP (eName 3) (eC (.int 2))) (eName 2))) (bVal (eBin nmP (eBin gixP (eName 3) (eC (.int 0))) (eName 2)))) (sSub 2 setM (eBin addP (eBin gixP (eName 2) (eBin gixP (eName 3) (eC (.int 2)))) (eCall 1 fnegative (lCons (eBin gixP (eName 3) (eC (.int 3))) lNil))) (eBin gixP (eName 3) (eC (.int 0)))) sNil))))
    (sRet (eBin gixP (eName 2) (eName 1)))))
def frow_to : Fn := runFn 4 crow_to
--DEF relation
def crelation : CS :=
    (sSeq (sLet 1 (eCall 1 fwide_words (lCons (eName 0) lNil)))
    (sSeq (sIf (bVal (eBin memP (eC (dS "")) (eName 1))) (sRet (eLst (lCons (eBin addP (eMtL lindexP (eName 1) (lCons (eC (dS "")) lNil)) (eC (.int 1))) lNil))) sNil)
    (sSeq (sLet 2 (eBin gixP (eCall 1 ffolded (lCons (eCall 1 fpetals (lCons (eName 1) lNil)) lNil)) (eC (.int 1))))
    (sSeq (sIf (bVal (eBin isNP (eName 2) (eC .non))) (sRet (eC .non)) sNil)
    (sSeq (sAsg (eName 2) (gTupD 3 (gsCons (gSet 3) (gsCons (gSet 4) (gsCons (gSet 5) gsNil)))))
    (sSeq (sLet 6 (eCall 2 frow_to (lCons (eName 5) (lCons (eBin gixP (eName 3) (eC (.int 0))) lNil))))
    (sRet (eCall 1 fshort (lCons (eBin addP (eBin addP (eBin addP (eName 6) (eBin gixP (eName 3) (eC (.int 3)))) (eCall 1 fnegative (lCons (eBin gixP (eName 4) (eC (.int 3))) lNil))) (eCall 1 fnegative (lCons (eName 6) lNil))) lNil)))))))))
def frelation : Fn := runFn 7 crelation
--DEF back_word
def cback_word : CS :=
    (sRet (eMtS joinP (eC (dS "")) (lCons (eComp 1 (iAny (eUn revP (eName 0))) bYes (eUn (getGP [([117], dS "U"), ([118], dS "V"), ([85], dS "u"), ([86], dS "v")]) (eName 1))) lNil)))
def fback_word : Fn := runFn 2 cback_word
--DEF stems_of
def cstems_of : CS :=
    (sSeq (sSet 1 (eDisp (lCons (eC (.int 0)) (lCons (eC (dS "")) lNil))))
    (sSeq (sSet 2 (eNewDT))
    (sSeq (sFor (iRng1' (lCons (eCallB lenP (lCons (eName 0) lNil)) lNil)) (gSet 3) (sFor (iEnu (eBin gixP (eName 0) (eName 3))) (gTupD 2 (gsCons (gSet 4) (gsCons (gSet 5) gsNil))) (sIf (bAnd (bVal (eBin noNP (eName 5) (eC .non))) (bVal (eBin nmP (eName 5) (eName 1)))) (sSeq (sSub 1 setM (eBin addP (eBin gixP (eName 1) (eName 3)) (eBin gixP (eC (dS "uvUV")) (eName 4))) (eName 5))
    (sIf (bVal (eBin ltP (eName 4) (eC (.int 2)))) (sSub 2 setM (eC (.bl true)) (eTup (lCons (eName 3) (lCons (eName 4) lNil)))) (sSub 2 setM (eC (.bl true)) (eTup (lCons (eName 5) (lCons (eBin subP (eName 4) (eC (.int 2))) lNil)))))) sNil)))
    (sRet (eTup (lCons (eShare 1) (lCons (eShare 2) lNil)))))))
def fstems_of : Fn := runFn 6 cstems_of
--DEF basis_of
def cbasis_of : CS :=
    (sSeq (sAsg (eCall 1 fstems_of (lCons (eName 0) lNil)) (gTupD 2 (gsCons (gSet 1) (gsCons (gSet 2) gsNil))))
    (sSeq (sSet 3 (eLst lNil))
    (sSeq (sFor (iEnu (eName 0)) (gTupD 2 (gsCons (gSet 4) (gsCons (gSet 5) gsNil))) (sFor (iRng1' (lCons (eC (.int 2)) lNil)) (gSet 6) (sIf (bAnd (bVal (eBin noNP (eBin gixP (eName 5) (eName 6)) (eC .non))) (bVal (eBin nmP (eTup (lCons (eName 4) (lCons (eName 6) lNil))) (eName 2)))) (sSeq (sLet 7 (eBin addP (eBin addP (eBin gixP (eName 1) (eName 4)) (eBin gixP (eC (dS "uvUV")) (eName 6))) (eCall 1 fback_word (lCons (eBin gixP (eName 1) (eBin gixP (eName 5) (eName 6))) lNil))))
    (sExpr (eMut 3 isL appendM (lCons (eCall 1 fmade_of (lCons (eCall 1 fwithout_pairs (lCons (eName 7) lNil)) lNil)) lNil)))) sNil)))
    (sRet (eName 3)))))
def fbasis_of : Fn := runFn 8 cbasis_of
--DEF basis
def cbasis : CS :=
    (sRet (eCall 1 fbasis_of (lCons (eCall 1 fgraph_of (lCons (eName 0) lNil)) lNil)))
def fbasis : Fn := runFn 1 cbasis
--DEF same_wide
def csame_wide : CS :=
    (sRet (eBin eqP (eCall 1 fgraph_of (lCons (eName 0) lNil)) (eCall 1 fgraph_of (lCons (eName 1) lNil))))
def fsame_wide : Fn := runFn 2 csame_wide
--DEF _law_read
def c_law_read : CS :=
    (sSeq (sAsg (eName 0) (gTupD 4 (gsCons (gSet 1) (gsCons (gSet 2) (gsCons (gSet 3) (gsCons (gSet 4) gsNil))))))
    (sSeq (sLet 5 (eC (dS "")))
    (sSeq (sWhile fuelW (bVal (eBin neP (eTup (lCons (eName 2) (lCons (eName 3) lNil))) (eTup (lCons (eC (.int 0)) (lCons (eC (.int 0)) lNil))))) (sSeq (sLet 6 (eOr (eBin eqP (eName 3) (eC (.int 0))) (eBin gtP (eCallB max2P (lCons (eName 1) (lCons (eBin subP (eC (.int 0)) (eName 1)) lNil))) (eCallB max2P (lCons (eName 3) (lCons (eBin subP (eC (.int 0)) (eName 3)) lNil))))))
    (sSeq (sLet 7 (eC .non))
    (sSeq (sFor (iAny (eLst (lCons (eTup (lCons (eC (dS "u")) (lCons (eC (.int 2)) lNil))) (lCons (eTup (lCons (eC (dS "U")) (lCons (eUn negP (eC (.int 2))) lNil))) (lCons (eTup (lCons (eC (dS "v")) (lCons (eC (.int 2)) lNil))) (lCons (eTup (lCons (eC (dS "V")) (lCons (eUn negP (eC (.int 2))) lNil))) lNil)))))) (gTupD 2 (gsCons (gSet 8) (gsCons (gSet 9) gsNil))) (sIf (bVal (eBin eqP (eMtS0 lowerP (eName 8)) (eBin gixP (eLst (lCons (eC (dS "v")) (lCons (eC (dS "u")) lNil))) (eCallB intP (lCons (eName 6) lNil))))) (sSeq (sLet 10 (eBin gixP (eLst (lCons (eTup (lCons (eBin subP (eName 1) (eBin mulP (eName 9) (eName 3))) (lCons (eBin subP (eName 2) (eBin mulP (eName 9) (eName 4))) (lCons (eName 3) (lCons (eName 4) lNil))))) (lCons (eTup (lCons (eName 1) (lCons (eName 2) (lCons (eBin subP (eName 3) (eBin mulP (eName 9) (eName 1))) (lCons (eBin subP (eName 4) (eBin mulP (eName 9) (eName 2))) lNil))))) lNil))) (eCallB intP (lCons (eNot (eName 6)) lNil))))
    (sSeq (sLet 11 (eCallB sumP (lCons (eComp 12 (iAny (eName 10)) bYes (eCallB max2P (lCons (eName 12) (lCons (eBin subP (eC (.int 0)) (eName 12)) lNil)))) lNil)))
    (sIf (bOr (bVal (eBin isNP (eName 7) (eC .non))) (bVal (eBin ltP (eName 11) (eBin gixP (eName 7) (eC (.int 0)))))) (sLet 7 (eTup (lCons (eName 11) (lCons (eName 8) (lCons (eName 10) lNil))))) sNil))) sNil))
    (sSeq (sLet 5 (eBin addP (eName 5) (eBin gixP (eName 7) (eC (.int 1)))))
    (sAsg (eBin gixP (eName 7) (eC (.int 2))) (gTupD 4 (gsCons (gSet 1) (gsCons (gSet 2) (gsCons (gSet 3) (gsCons (gSet 4) gsNil)))))))))))
    (sRet (eName 5)))))
def f_law_read : Fn := runFn 13 c_law_read
--DEF bared
def cbared : CS :=
    (sSeq (sLet 1 (eC (dS "")))
    (sSeq (sWhile fuelW (bAnd (bVal (eBin gtP (eCallB lenP (lCons (eName 0) lNil)) (eC (.int 1)))) (bVal (eBin eqP (eBin gixP (eName 0) (eC (.int 0))) (eUn (getGP [([117], dS "U"), ([118], dS "V"), ([85], dS "u"), ([86], dS "v")]) (eBin gixP (eName 0) (eUn negP (eC (.int 1)))))))) (sSeq (sLet 1 (eBin addP (eName 1) (eBin gixP (eName 0) (eC (.int 0)))))
    (sLet 0 (eSlice slD (eName 0) (oSome (eC (.int 1))) (oSome (eUn negP (eC (.int 1))))))))
    (sRet (eTup (lCons (eName 1) (lCons (eName 0) lNil))))))
def fbared : Fn := runFn 2 cbared
--DEF root_of
def croot_of : CS :=
    (sSeq (sAsg (eCall 1 fbared (lCons (eCall 1 fwide_word (lCons (eName 0) lNil)) lNil)) (gTupD 2 (gsCons (gSet 1) (gsCons (gSet 2) gsNil))))
    (sSeq (sIf (bVal (eBin eqP (eName 2) (eC (dS "")))) (sRet (eC .non)) sNil)
    (sSeq (sLet 3 (eC (.int 1)))
    (sSeq (sWhile fuelW (bOr (bVal (eBin neP (eBin modP (eCallB lenP (lCons (eName 2) lNil)) (eName 3)) (eC (.int 0)))) (bVal (eBin neP (eBin mulP (eSlice slD (eName 2) oNone (oSome (eName 3))) (eBin fdivP (eCallB lenP (lCons (eName 2) lNil)) (eName 3))) (eName 2)))) (sLet 3 (eBin addP (eName 3) (eC (.int 1)))))
    (sRet (eTup (lCons (eCall 1 fmade_of (lCons (eBin addP (eBin addP (eName 1) (eSlice slD (eName 2) oNone (oSome (eName 3)))) (eCall 1 fback_word (lCons (eName 1) lNil))) lNil)) (lCons (eBin fdivP (eCallB lenP (lCons (eName 2) lNil)) (eName 3)) lNil))))))))
def froot_of : Fn := runFn 4 croot_of
--DEF _law_root_due
def c_law_root_due : CS :=
    (sSeq (sLet 1 (eC (dS "")))
    (sSeq (sWhile fuelW (bAnd (bVal (eBin gtP (eCallB lenP (lCons (eName 0) lNil)) (eC (.int 1)))) (bVal (eBin eqP (eBin gixP (eName 0) (eC (.int 0))) (eCall 1 f_law_other_way (lCons (eBin gixP (eName 0) (eUn negP (eC (.int 1)))) lNil))))) (sSeq (sLet 1 (eBin addP (eName 1) (eBin gixP (eName 0) (eC (.int 0)))))
    (sLet 0 (eSlice slD (eName 0) (oSome (eC (.int 1))) (oSome (eUn negP (eC (.int 1))))))))
    (sSeq (sLet 2 (eC (.int 1)))
    (sSeq (sFor (iRng2' (lCons (eC (.int 1)) (lCons (eBin addP (eCallB lenP (lCons (eName 0) lNil)) (eC (.int 1))) lNil))) (gSet 3) (sSeq (sLet 4 (eBin fdivP (eCallB lenP (lCons (eName 0) lNil)) (eName 3)))
    (sIf (bVal (eBin eqP (eBin mulP (eSlice slD (eName 0) oNone (oSome (eName 4))) (eName 3)) (eName 0))) (sLet 2 (eName 3)) sNil)))
    (sRet (eTup (lCons (eCall 1 f_law_short (lCons (eBin addP (eBin addP (eName 1) (eSlice slD (eName 0) oNone (oSome (eBin fdivP (eCallB lenP (lCons (eName 0) lNil)) (eName 2))))) (eCall 1 f_law_back_word (lCons (eName 1) lNil))) lNil)) (lCons (eName 2) lNil))))))))
def f_law_root_due : Fn := runFn 5 c_law_root_due
--DEF turner
def cturner : CS :=
    (sSeq (sAsg (eCall 1 fbared (lCons (eCall 1 fwide_word (lCons (eName 0) lNil)) lNil)) (gTupD 2 (gsCons (gSet 2) (gsCons (gSet 3) gsNil))))
    (sSeq (sAsg (eCall 1 fbared (lCons (eCall 1 fwide_word (lCons (eName 1) lNil)) lNil)) (gTupD 2 (gsCons (gSet 4) (gsCons (gSet 5) gsNil))))
    (sSeq (sIf (bVal (eBin neP (eCallB lenP (lCons (eName 3) lNil)) (eCallB lenP (lCons (eName 5) lNil)))) (sRet (eC .non)) sNil)
    (sSeq (sIf (bVal (eBin eqP (eName 3) (eC (dS "")))) (sRet (eCall 1 fmade_of (lCons (eC (dS "")) lNil))) sNil)
    (sSeq (sFor (iRng1' (lCons (eCallB lenP (lCons (eName 3) lNil)) lNil)) (gSet 6) (sIf (bVal (eBin eqP (eBin addP (eSlice slD (eName 3) (oSome (eName 6)) oNone) (eSlice slD (eName 3) oNone (oSome (eName 6)))) (eName 5))) (sRet (eCall 1 fmade_of (lCons (eCall 1 fwithout_pairs (lCons (eBin addP (eBin addP (eName 2) (eSlice slD (eName 3) oNone (oSome (eName 6)))) (eCall 1 fback_word (lCons (eName 4) lNil))) lNil)) lNil))) sNil))
    (sRet (eC .non)))))))
def fturner : Fn := runFn 7 cturner
--DEF _law_bare
def c_law_bare : CS :=
    (sSeq (sWhile fuelW (bAnd (bVal (eBin gtP (eCallB lenP (lCons (eName 0) lNil)) (eC (.int 1)))) (bVal (eBin eqP (eBin gixP (eName 0) (eC (.int 0))) (eCall 1 f_law_other_way (lCons (eBin gixP (eName 0) (eUn negP (eC (.int 1)))) lNil))))) (sLet 0 (eSlice slD (eName 0) (oSome (eC (.int 1))) (oSome (eUn negP (eC (.int 1)))))))
    (sRet (eName 0)))
def f_law_bare : Fn := runFn 1 c_law_bare
--DEF _law_other_text
def c_law_other_text : CS :=
    (sSeq (sLet 2 (eCall 2 f_law_draw (lCons (eName 0) (lCons (eC (.int 6)) lNil))))
    (sSeq (sLet 3 (eCall 2 f_law_wide_text (lCons (eName 0) (lCons (eC (.int 8)) lNil))))
    (sSeq (sLet 4 (eCall 2 f_law_draw (lCons (eName 0) (lCons (eBin addP (eCallB lenP (lCons (eName 1) lNil)) (eC (.int 1))) lNil))))
    (sSeq (sIf (bVal (eBin ltP (eName 2) (eC (.int 2)))) (sRet (eCall 1 f_law_short (lCons (eBin addP (eBin addP (eCall 1 f_law_back_word (lCons (eName 3) lNil)) (eName 1)) (eName 3)) lNil))) sNil)
    (sSeq (sIf (bVal (eBin eqP (eName 2) (eC (.int 2)))) (sRet (eCall 1 f_law_short (lCons (eBin addP (eSlice slD (eName 1) (oSome (eName 4)) oNone) (eSlice slD (eName 1) oNone (oSome (eName 4)))) lNil))) sNil)
    (sSeq (sIf (bVal (eBin eqP (eName 2) (eC (.int 3)))) (sRet (eCall 1 f_law_short (lCons (eBin addP (eBin addP (eSlice slD (eName 1) oNone (oSome (eName 4))) (eBin gixP (eC (dS "uvUV")) (eCall 2 f_law_draw (lCons (eName 0) (lCons (eC (.int 4)) lNil))))) (eSlice slD (eName 1) (oSome (eBin addP (eName 4) (eC (.int 1)))) oNone)) lNil))) sNil)
    (sRet (eBin gixP (eLst (lCons (eCall 1 f_law_back_word (lCons (eName 1) lNil)) (lCons (eName 3) lNil))) (eBin subP (eName 2) (eC (.int 4)))))))))))
def f_law_other_text : Fn := runFn 5 c_law_other_text
--DEF _law_turns
def c_law_turns : CS :=
    (sSeq (sAsg (eName 0) (gTupD 4 (gsCons (gSet 3) (gsCons (gSet 4) (gsCons (gSet 5) (gsCons (gSet 6) gsNil))))))
    (sSeq (sIf (bOr (bVal (eBin neP (eComp 7 (iAny (eTup (lCons (eName 3) (lCons (eName 6) lNil)))) bYes (eBin modP (eName 7) (eC (.int 4)))) (eLst (lCons (eC (.int 1)) (lCons (eC (.int 1)) lNil))))) (bOr (bVal (eBin neP (eBin modP (eName 4) (eC (.int 2))) (eC (.int 0)))) (bOr (bVal (eBin neP (eBin modP (eName 5) (eC (.int 2))) (eC (.int 0)))) (bVal (eBin neP (eBin subP (eBin mulP (eName 3) (eName 6)) (eBin mulP (eName 4) (eName 5))) (eC (.int 1))))))) (sRet (eC (.bl false))) sNil)
    (sRet (eBin eqP (eCall 1 f_law_made (lCons (eLst (lCons (eTup (lCons (eName 6) (lCons (eBin subP (eC (.int 0)) (eName 4)) (lCons (eBin subP (eC (.int 0)) (eName 5)) (lCons (eName 3) lNil))))) (lCons (eName 1) (lCons (eName 0) lNil)))) lNil)) (eName 2)))))
def f_law_turns : Fn := runFn 8 c_law_turns
--DEF moves
def cmoves : CS :=
    (sSeq (sLet 1 (eCall 1 fgraph_of (lCons (eName 0) lNil)))
    (sSeq (sIf (bVal (eBin neP (eComp 2 (iAny (eName 1)) (bVal (eBin memP (eC .non) (eName 2))) (eName 2)) (eLst lNil))) (sRet (eC .non)) sNil)
    (sRet (eTup (lCons (eComp 2 (iAny (eName 1)) bYes (eBin gixP (eName 2) (eC (.int 0)))) (lCons (eComp 2 (iAny (eName 1)) bYes (eBin gixP (eName 2) (eC (.int 1)))) lNil))))))
def fmoves : Fn := runFn 3 cmoves
--DEF _law_walked
def c_law_walked : CS :=
    (sSeq (sLet 2 (eC (.int 0)))
    (sSeq (sFor (iAny (eName 1)) (gSet 3) (sSeq (sLet 4 (eBin gixP (eName 0) (eBin modP (eMtS sindexP (eC (dS "uvUV")) (lCons (eName 3) lNil)) (eC (.int 2)))))
    (sIf (bVal (eBin memP (eName 3) (eC (dS "uv")))) (sLet 2 (eBin gixP (eName 4) (eName 2))) (sLet 2 (eMtL lindexP (eName 4) (lCons (eName 2) lNil))))))
    (sRet (eName 2))))
def f_law_walked : Fn := runFn 5 c_law_walked
--DEF number_in
def cnumber_in : CS :=
    (sSeq (sLet 1 (eName 0))
    (sSeq (sIf (bVal (eBin eqP (eSlice slD (eName 0) oNone (oSome (eC (.int 1)))) (eC (dS "-")))) (sLet 1 (eSlice slD (eName 0) (oSome (eC (.int 1))) oNone)) sNil)
    (sSeq (sIf (bOr (bNot (bVal (eChain leP leP (eC (.int 1)) (eCallB lenP (lCons (eName 1) lNil)) (eC (.int 200))))) (bAnd (bVal (eBin eqP (eBin gixP (eName 1) (eC (.int 0))) (eC (dS "0")))) (bVal (eBin neP (eName 0) (eC (dS "0")))))) (sRet (eC .non)) sNil)
    (sSeq (sFor (iAny (eName 1)) (gSet 2) (sIf (bVal (eBin nmP (eName 2) (eC (dS "0123456789")))) (sRet (eC .non)) sNil))
    (sRet (eCallB intP (lCons (eName 0) lNil)))))))
def fnumber_in : Fn := runFn 3 cnumber_in
--DEF table_text
def ctable_text : CS :=
    (sRet (eMtS joinP (eC (dS ",")) (lCons (eComp 1 (iAny (eName 0)) bYes (eCallB strP (lCons (eName 1) lNil))) lNil)))
def ftable_text : Fn := runFn 2 ctable_text
--DEF read_table
def cread_table : CS :=
    (sSeq (sIf (bNot (bVal (eIsT .str (eName 0)))) (sRaise "NoText") sNil)
    (sSeq (sLet 1 (eComp 2 (iAny (eMtS splitP (eName 0) (lCons (eC (dS ",")) lNil))) bYes (eCall 1 fnumber_in (lCons (eName 2) lNil))))
    (sSeq (sIf (bOr (bVal (eBin neP (eCallB lenP (lCons (eName 1) lNil)) (eC (.int 4)))) (bVal (eBin memP (eC .non) (eName 1)))) (sRaise "NoText") sNil)
    (sRet (eCallB tupleP (lCons (eName 1) lNil))))))
def fread_table : Fn := runFn 3 cread_table
--DEF _law_figures_in
def c_law_figures_in : CS :=
    (sSeq (sLet 1 (eSlice slD (eName 0) (oSome (eCallB intP (lCons (eBin eqP (eSlice slD (eName 0) oNone (oSome (eC (.int 1)))) (eC (dS "-"))) lNil))) oNone))
    (sSeq (sIf (bOr (bVal (eBin ltP (eCallB lenP (lCons (eName 1) lNil)) (eC (.int 1)))) (bOr (bVal (eBin gtP (eCallB lenP (lCons (eName 1) lNil)) (eC (.int 200)))) (bAnd (bVal (eBin eqP (eBin gixP (eName 1) (eC (.int 0))) (eC (dS "0")))) (bVal (eBin neP (eName 0) (eC (dS "0"))))))) (sRet (eC .non)) sNil)
    (sSeq (sLet 2 (eComp 3 (iAny (eName 1)) (bVal (eBin nmP (eName 3) (eC (dS "0123456789")))) (eName 3)))
    (sRet (eIf (bVal (eBin neP (eName 2) (eLst lNil))) (eC .non) (eCallB intP (lCons (eName 0) lNil)))))))
def f_law_figures_in : Fn := runFn 4 c_law_figures_in
--DEF _law_read_table
def c_law_read_table : CS :=
    (sSeq (sLet 1 (eComp 2 (iAny (eMtS splitP (eName 0) (lCons (eC (dS ",")) lNil))) bYes (eCall 1 f_law_figures_in (lCons (eName 2) lNil))))
    (sRet (eIf (bOr (bVal (eBin neP (eCallB lenP (lCons (eName 1) lNil)) (eC (.int 4)))) (bVal (eBin memP (eC .non) (eName 1)))) (eC .non) (eCallB tupleP (lCons (eName 1) lNil)))))
def f_law_read_table : Fn := runFn 3 c_law_read_table
--DEF _law_shown
def c_law_shown : CS :=
    (sRet (eMtS joinP (eC (dS ",")) (lCons (eComp 1 (iAny (eName 0)) bYes (eCallB strP (lCons (eName 1) lNil))) lNil)))
def f_law_shown : Fn := runFn 2 c_law_shown
--DEF is_name
def cis_name : CS :=
    (sSeq (sIf (bNot (bVal (eChain leP leP (eC (.int 1)) (eCallB lenP (lCons (eName 0) lNil)) (eC (.int 8))))) (sRet (eC (.bl false))) sNil)
    (sRet (eCallB allP (lCons (eComp 1 (iAny (eName 0)) bYes (eBin memP (eName 1) (eC (dS "abcdefghijklmnopqrstuvwxyz")))) lNil))))
def fis_name : Fn := runFn 2 cis_name
--DEF fits
def cfits : CS :=
    (sSeq (sIf (bVal (eBin eqP (eSlice slD (eName 0) (oSome (eUn negP (eC (.int 1)))) oNone) (eC (dS "+")))) (sRet (eBin geP (eCallB lenP (lCons (eName 1) lNil)) (eCallB lenP (lCons (eName 0) lNil)))) sNil)
    (sRet (eBin eqP (eCallB lenP (lCons (eName 1) lNil)) (eCallB lenP (lCons (eName 0) lNil)))))
def ffits : Fn := runFn 2 cfits
--DEF yes_or_no
def cyes_or_no : CS :=
    (sSeq (sIf (bVal (eName 0)) (sRet (eC (dS "yes"))) sNil)
    (sRet (eC (dS "no"))))
def fyes_or_no : Fn := runFn 1 cyes_or_no
--DEF row_text
def crow_text : CS :=
    (sSeq (sIf (bVal (eBin isNP (eName 0) (eC .non))) (sRet (eC (dS "none"))) sNil)
    (sRet (eOrS (eMtS joinP (eC (dS ",")) (lCons (eComp 1 (iAny (eName 0)) bYes (eCallB strP (lCons (eName 1) lNil))) lNil)) (eC (dS "-")))))
def frow_text : Fn := runFn 2 crow_text
--DEF tables_text
def ctables_text : CS :=
    (sRet (eOrS (eMtS joinP (eC (dS " ")) (lCons (eComp 1 (iAny (eName 0)) bYes (eCall 1 ftable_text (lCons (eName 1) lNil))) lNil)) (eC (dS "none"))))
def ftables_text : Fn := runFn 2 ctables_text
--DEF _law_row
def c_law_row : CS :=
    (sSeq (sLet 2 (eBin gixP (eName 1) (eCall 2 f_law_draw (lCons (eName 0) (lCons (eCallB lenP (lCons (eName 1) lNil)) lNil)))))
    (sSeq (sLet 3 (eBin gixP (eLst (lCons (eName 2) (lCons (eName 2) (lCons (eName 2) (lCons (eC (dS "Ab")) (lCons (eC (dS "abcdefghi")) (lCons (eBin gixP (eName 1) (eCall 2 f_law_draw (lCons (eName 0) (lCons (eCallB lenP (lCons (eName 1) lNil)) lNil)))) lNil))))))) (eCall 2 f_law_draw (lCons (eName 0) (lCons (eC (.int 6)) lNil)))))
    (sSeq (sLet 4 (eCall 1 f_law_shown (lCons (eCall 1 f_law_of_letters (lCons (eCall 2 f_law_piece (lCons (eName 0) (lCons (eC (.int 4)) lNil))) lNil)) lNil)))
    (sSeq (sLet 5 (eCall 1 f_law_shown (lCons (eCall 1 f_law_of_letters (lCons (eCall 2 f_law_wide_text (lCons (eName 0) (lCons (eC (.int 4)) lNil))) lNil)) lNil)))
    (sSeq (sLet 6 (eCall 1 f_law_shown (lCons (eCallB tupleP (lCons (eComp 12 (iRng1' (lCons (eC (.int 4)) lNil)) bYes (eBin subP (eCall 2 f_law_draw (lCons (eName 0) (lCons (eC (.int 5)) lNil))) (eC (.int 2)))) lNil)) lNil)))
    (sSeq (sLet 7 (eBin gixP (eLst (lCons (eName 4) (lCons (eName 5) (lCons (eName 4) (lCons (eName 5) (lCons (eName 6) lNil)))))) (eCall 2 f_law_draw (lCons (eName 0) (lCons (eC (.int 5)) lNil)))))
    (sSeq (sLet 8 (eBin gixP (eLst (lCons (eBin addP (eC (.int 1)) (eCall 2 f_law_draw (lCons (eName 0) (lCons (eC (.int 3)) lNil)))) (lCons (eBin addP (eC (.int 1)) (eCall 2 f_law_draw (lCons (eName 0) (lCons (eC (.int 9)) lNil)))) lNil))) (eBin fdivP (eCall 2 f_law_draw (lCons (eName 0) (lCons (eC (.int 4)) lNil))) (eC (.int 3)))))
    (sSeq (sLet 9 (eComp 12 (iRng1' (lCons (eName 8) lNil)) bYes (eBin gixP (eName 1) (eCall 2 f_law_draw (lCons (eName 0) (lCons (eCallB lenP (lCons (eName 1) lNil)) lNil))))))
    (sSeq (sLet 10 (eMtS joinP (eC (dS " ")) (lCons (eBin addP (eLst (lCons (eName 3) lNil)) (eName 9)) lNil)))
    (sSeq (sSet 11 (eLst (lCons (eBin addP (eBin addP (eBin addP (eC (dS "put ")) (eName 3)) (eC (dS " "))) (eName 7)) (lCons (eBin addP (eBin addP (eBin addP (eC (dS "put ")) (eName 2)) (eC (dS " "))) (eName 7)) (lCons (eBin addP (eC (dS "drop ")) (eName 2)) (lCons (eC (dS "names")) (lCons (eBin addP (eC (dS "show ")) (eName 3)) lNil)))))))
    (sSeq (sSet 11 (eBin addP (eName 11) (eLst (lCons (eBin addP (eBin addP (eBin addP (eC (dS "times ")) (eName 2)) (eC (dS " "))) (eName 3)) (lCons (eBin addP (eC (dS "word ")) (eName 2)) (lCons (eBin addP (eC (dS "wide ")) (eName 2)) (lCons (eBin addP (eBin addP (eBin addP (eC (dS "made ")) (eName 7)) (eC (dS " "))) (eName 10)) lNil)))))))
    (sSeq (sSet 11 (eBin addP (eName 11) (eLst (lCons (eBin addP (eBin addP (eBin addP (eC (dS "ways ")) (eName 7)) (eC (dS " "))) (eName 10)) (lCons (eBin addP (eC (dS "free ")) (eName 10)) (lCons (eBin addP (eC (dS "rank ")) (eName 10)) (lCons (eBin addP (eBin addP (eBin addP (eC (dS "within ")) (eName 7)) (eC (dS " "))) (eName 10)) lNil)))))))
    (sSeq (sSet 11 (eBin addP (eName 11) (eLst (lCons (eBin addP (eC (dS "basis ")) (eName 10)) (lCons (eBin addP (eBin addP (eBin addP (eC (dS "made ")) (eName 4)) (eC (dS " "))) (eMtS joinP (eC (dS " ")) (lCons (eName 9) lNil))) (lCons (eBin addP (eBin addP (eBin addP (eC (dS "within ")) (eName 5)) (eC (dS " "))) (eMtS joinP (eC (dS " ")) (lCons (eName 9) lNil))) lNil))))))
    (sSeq (sSet 11 (eBin addP (eName 11) (eLst (lCons (eBin addP (eC (dS "hull ")) (eName 10)) (lCons (eBin addP (eC (dS "share ")) (eName 10)) (lCons (eBin addP (eC (dS "stuck ")) (eName 10)) (lCons (eBin addP (eC (dS "root ")) (eName 2)) (lCons (eBin addP (eBin addP (eBin addP (eC (dS "kin ")) (eName 2)) (eC (dS " "))) (eName 3)) lNil))))))))
    (sSeq (sSet 11 (eBin addP (eName 11) (eLst (lCons (eBin addP (eC (dS "mill ")) (eMtS joinP (eC (dS " ")) (lCons (eName 9) lNil))) (lCons (eBin addP (eC (dS "feed ")) (eName 2)) (lCons (eBin addP (eC (dS "feed ")) (eName 3)) (lCons (eC (dS "undo")) (lCons (eC (dS "text")) (lCons (eC (dS "now")) (lCons (eC (dS "rests")) lNil))))))))))
    (sSeq (sExpr (eMut 11 isL appendM (lCons (eBin addP (eC (dS "feed ")) (eName 2)) lNil)))
    (sRet (eBin gixP (eName 11) (eBin mulP (eCall 2 f_law_draw (lCons (eName 0) (lCons (eCallB lenP (lCons (eName 11) lNil)) lNil))) (eCallB intP (lCons (eBin gtP (eCall 2 f_law_draw (lCons (eName 0) (lCons (eC (.int 4)) lNil))) (eC (.int 0))) lNil)))))))))))))))))))))
def f_law_row : Fn := runFn 13 c_law_row
--DEF _law_words_in
def c_law_words_in : CS :=
    (sSeq (sLet 1 (eMtS splitP (eName 0) (lCons (eC (dS " ")) lNil)))
    (sSeq (sSet 2 (eDisp (lCons (eC (dS "put")) (lCons (eC (.int 3)) (lCons (eC (dS "drop")) (lCons (eC (.int 2)) (lCons (eC (dS "names")) (lCons (eC (.int 1)) (lCons (eC (dS "show")) (lCons (eC (.int 2)) (lCons (eC (dS "times")) (lCons (eC (.int 3)) (lCons (eC (dS "word")) (lCons (eC (.int 2)) (lCons (eC (dS "wide")) (lCons (eC (.int 2)) (lCons (eC (dS "root")) (lCons (eC (.int 2)) (lCons (eC (dS "kin")) (lCons (eC (.int 3)) lNil))))))))))))))))))))
    (sSeq (sExpr (eMut 2 isDi updateM (lCons (eDisp (lCons (eC (dS "feed")) (lCons (eC (.int 2)) (lCons (eC (dS "undo")) (lCons (eC (.int 1)) (lCons (eC (dS "text")) (lCons (eC (.int 1)) (lCons (eC (dS "now")) (lCons (eC (.int 1)) (lCons (eC (dS "rests")) (lCons (eC (.int 1)) lNil))))))))))) lNil)))
    (sSeq (sSet 3 (eDisp (lCons (eC (dS "made")) (lCons (eC (.int 3)) (lCons (eC (dS "ways")) (lCons (eC (.int 3)) (lCons (eC (dS "free")) (lCons (eC (.int 2)) (lCons (eC (dS "rank")) (lCons (eC (.int 2)) (lCons (eC (dS "within")) (lCons (eC (.int 3)) (lCons (eC (dS "basis")) (lCons (eC (.int 2)) (lCons (eC (dS "hull")) (lCons (eC (.int 2)) (lCons (eC (dS "share")) (lCons (eC (.int 2)) (lCons (eC (dS "stuck")) (lCons (eC (.int 2)) lNil))))))))))))))))))))
    (sSeq (sSub 3 setM (eC (.int 2)) (eC (dS "mill")))
    (sSeq (sIf (bOr (bVal (eBin memP (eC (dS "")) (eName 1))) (bAnd (bVal (eBin nmP (eBin gixP (eName 1) (eC (.int 0))) (eName 2))) (bVal (eBin nmP (eBin gixP (eName 1) (eC (.int 0))) (eName 3))))) (sRet (eLst lNil)) sNil)
    (sSeq (sIf (bVal (eBin memP (eBin gixP (eName 1) (eC (.int 0))) (eName 2))) (sRet (eIf (bVal (eBin eqP (eCallB lenP (lCons (eName 1) lNil)) (eBin gixP (eName 2) (eBin gixP (eName 1) (eC (.int 0)))))) (eName 1) (eLst lNil))) sNil)
    (sRet (eIf (bVal (eBin geP (eCallB lenP (lCons (eName 1) lNil)) (eBin gixP (eName 3) (eBin gixP (eName 1) (eC (.int 0)))))) (eName 1) (eLst lNil))))))))))
def f_law_words_in : Fn := runFn 4 c_law_words_in
--DEF _law_is_name
def c_law_is_name : CS :=
    (sSeq (sIf (bNot (bVal (eChain leP leP (eC (.int 1)) (eCallB lenP (lCons (eName 0) lNil)) (eC (.int 8))))) (sRet (eC (.bl false))) sNil)
    (sRet (eBin eqP (eComp 1 (iAny (eName 0)) (bVal (eBin nmP (eName 1) (eC (dS "abcdefghijklmnopqrstuvwxyz")))) (eName 1)) (eLst lNil))))
def f_law_is_name : Fn := runFn 2 c_law_is_name
--DEF _law_list_text
def c_law_list_text : CS :=
    (sSeq (sIf (bVal (eBin isNP (eName 0) (eC .non))) (sRet (eC (dS "none"))) sNil)
    (sRet (eOrS (eMtS joinP (eC (dS ",")) (lCons (eComp 1 (iAny (eName 0)) bYes (eCallB strP (lCons (eName 1) lNil))) lNil)) (eC (dS "-")))))
def f_law_list_text : Fn := runFn 2 c_law_list_text
--DEF _law_told_of
def c_law_told_of : CS :=
    (sSeq (sIf (bVal (eBin eqP (eName 0) (eC (dS "times")))) (sRet (eCall 1 f_law_shown (lCons (eCall 2 fproduct (lCons (eBin gixP (eName 1) (eC (.int 0))) (lCons (eBin gixP (eName 1) (eC (.int 1))) lNil))) lNil))) sNil)
    (sSeq (sIf (bVal (eBin eqP (eName 0) (eC (dS "word")))) (sRet (eOrS (eCall 1 fword_of (lCons (eBin gixP (eName 1) (eC (.int 0))) lNil)) (eC (dS "-")))) sNil)
    (sSeq (sIf (bVal (eBin eqP (eName 0) (eC (dS "wide")))) (sRet (eOrS (eCall 1 fwide_word (lCons (eBin gixP (eName 1) (eC (.int 0))) lNil)) (eC (dS "-")))) sNil)
    (sSeq (sIf (bVal (eBin eqP (eName 0) (eC (dS "kin")))) (sRet (eBin gixP (eLst (lCons (eC (dS "no")) (lCons (eC (dS "yes")) lNil))) (eCallB intP (lCons (eBin noNP (eCall 2 fturner (lCons (eBin gixP (eName 1) (eC (.int 0))) (lCons (eBin gixP (eName 1) (eC (.int 1))) lNil))) (eC .non)) lNil)))) sNil)
    (sSeq (sIf (bVal (eBin eqP (eName 0) (eC (dS "root")))) (sSeq (sLet 2 (eCall 1 froot_of (lCons (eBin gixP (eName 1) (eC (.int 0))) lNil)))
    (sRet (eIf (bVal (eBin isNP (eName 2) (eC .non))) (eC (dS "none")) (eBin addP (eBin addP (eCall 1 f_law_shown (lCons (eBin gixP (eName 2) (eC (.int 0))) lNil)) (eC (dS " "))) (eCallB strP (lCons (eBin gixP (eName 2) (eC (.int 1))) lNil)))))) sNil)
    (sRet (eCall 1 f_law_shown (lCons (eBin gixP (eName 1) (eC (.int 0))) lNil))))))))
def f_law_told_of : Fn := runFn 3 c_law_told_of
--DEF _law_of_makers
def c_law_of_makers : CS :=
    (sSeq (sIf (bVal (eBin eqP (eName 0) (eC (dS "free")))) (sRet (eBin gixP (eLst (lCons (eC (dS "no")) (lCons (eC (dS "yes")) lNil))) (eCallB intP (lCons (eBin isNP (eCall 1 ftwins (lCons (eName 1) lNil)) (eC .non)) lNil)))) sNil)
    (sSeq (sIf (bVal (eBin eqP (eName 0) (eC (dS "rank")))) (sSeq (sLet 2 (eCall 1 findex (lCons (eName 1) lNil)))
    (sRet (eBin addP (eBin addP (eCallB strP (lCons (eCall 1 frank (lCons (eName 1) lNil)) lNil)) (eC (dS " "))) (eIf (bVal (eBin isNP (eName 2) (eC .non))) (eC (dS "-")) (eCallB strP (lCons (eName 2) lNil)))))) sNil)
    (sSeq (sIf (bVal (eBin eqP (eName 0) (eC (dS "share")))) (sRet (eMtS joinP (eC (dS "/")) (lCons (eComp 4 (iAny (eCall 1 fshare (lCons (eName 1) lNil))) bYes (eCallB strP (lCons (eName 4) lNil))) lNil))) sNil)
    (sSeq (sIf (bVal (eBin eqP (eName 0) (eC (dS "stuck")))) (sRet (eOrS (eCall 1 fstuck (lCons (eName 1) lNil)) (eC (dS "none")))) sNil)
    (sSeq (sLet 3 (eIf (bVal (eBin eqP (eName 0) (eC (dS "basis")))) (eCall 1 fbasis (lCons (eName 1) lNil)) (eCall 1 fhull (lCons (eName 1) lNil))))
    (sRet (eOrS (eMtS joinP (eC (dS " ")) (lCons (eComp 5 (iAny (eName 3)) bYes (eCall 1 f_law_shown (lCons (eName 5) lNil))) lNil)) (eC (dS "none")))))))))
def f_law_of_makers : Fn := runFn 6 c_law_of_makers
--DEF _law_by_makers
def c_law_by_makers : CS :=
    (sSeq (sIf (bVal (eBin eqP (eName 0) (eC (dS "made")))) (sRet (eCall 1 f_law_list_text (lCons (eCall 2 fleast_row (lCons (eName 2) (lCons (eName 1) lNil))) lNil))) sNil)
    (sSeq (sIf (bVal (eBin eqP (eName 0) (eC (dS "ways")))) (sRet (eCallB strP (lCons (eCall 2 fmany_rows (lCons (eName 2) (lCons (eName 1) lNil))) lNil))) sNil)
    (sSeq (sIf (bVal (eBin eqP (eName 0) (eC (dS "within")))) (sRet (eBin gixP (eLst (lCons (eC (dS "no")) (lCons (eC (dS "yes")) lNil))) (eCallB intP (lCons (eBin noNP (eCall 2 fsigned_row (lCons (eName 2) (lCons (eName 1) lNil))) (eC .non)) lNil)))) sNil)
    (sRet (eCall 2 f_law_of_makers (lCons (eName 0) (lCons (eName 2) lNil)))))))
def f_law_by_makers : Fn := runFn 3 c_law_by_makers
--DEF _law_names
def c_law_names : CS :=
    (sSeq (sLet 1 (eC (dS "abcdefghijklmnopqrstuvwxyz")))
    (sSeq (sSet 2 (eLst lNil))
    (sSeq (sFor (iRng1' (lCons (eBin gixP (eLst (lCons (eBin addP (eC (.int 1)) (eCall 2 f_law_draw (lCons (eName 0) (lCons (eC (.int 5)) lNil)))) (lCons (eBin addP (eC (.int 1)) (eCall 2 f_law_draw (lCons (eName 0) (lCons (eC (.int 13)) lNil)))) (lCons (eC (.int 40)) lNil)))) (eCall 2 f_law_draw (lCons (eName 0) (lCons (eC (.int 3)) lNil)))) lNil)) (gSet 3) (sSeq (sLet 4 (eMtS joinP (eC (dS "")) (lCons (eComp 5 (iRng1' (lCons (eBin addP (eC (.int 1)) (eCall 2 f_law_draw (lCons (eName 0) (lCons (eC (.int 8)) lNil)))) lNil)) bYes (eBin gixP (eName 1) (eCall 2 f_law_draw (lCons (eName 0) (lCons (eC (.int 26)) lNil))))) lNil)))
    (sSeq (sIf (bAnd (bVal (eBin neP (eName 2) (eLst lNil))) (bVal (eBin eqP (eCall 2 f_law_draw (lCons (eName 0) (lCons (eC (.int 2)) lNil))) (eC (.int 0))))) (sLet 4 (eSlice slD (eBin addP (eBin gixP (eName 2) (eCall 2 f_law_draw (lCons (eName 0) (lCons (eCallB lenP (lCons (eName 2) lNil)) lNil)))) (eName 4)) oNone (oSome (eC (.int 8))))) sNil)
    (sIf (bVal (eBin nmP (eName 4) (eName 2))) (sExpr (eMut 2 isL insertM (lCons (eCall 2 f_law_draw (lCons (eName 0) (lCons (eBin addP (eCallB lenP (lCons (eName 2) lNil)) (eC (.int 1))) lNil))) (lCons (eName 4) lNil)))) sNil))))
    (sRet (eName 2)))))
def f_law_names : Fn := runFn 6 c_law_names
--DEF all_within
def call_within : CS :=
    (sSeq (sLet 2 (eCall 1 fgraph_of (lCons (eName 0) lNil)))
    (sRet (eBin eqP (eComp 3 (iAny (eCall 1 fwide_words (lCons (eName 1) lNil))) (bNot (bVal (eCall 2 fcloses (lCons (eName 2) (lCons (eName 3) lNil))))) (eName 3)) (eLst lNil))))
def fall_within : Fn := runFn 4 call_within
--DEF _law_mill_word
def c_law_mill_word : CS :=
    (sSeq (sLet 2 (eBin gixP (eName 1) (eCall 2 f_law_draw (lCons (eName 0) (lCons (eCallB lenP (lCons (eName 1) lNil)) lNil)))))
    (sSeq (sLet 3 (eComp 7 (iRng1' (lCons (eBin gixP (eLst (lCons (eBin addP (eC (.int 1)) (eCall 2 f_law_draw (lCons (eName 0) (lCons (eC (.int 3)) lNil)))) (lCons (eC (.int 9)) lNil))) (eBin fdivP (eCall 2 f_law_draw (lCons (eName 0) (lCons (eC (.int 9)) lNil))) (eC (.int 8)))) lNil)) bYes (eBin gixP (eName 1) (eCall 2 f_law_draw (lCons (eName 0) (lCons (eCallB lenP (lCons (eName 1) lNil)) lNil))))))
    (sSeq (sLet 4 (eCall 1 f_law_shown (lCons (eCall 1 f_law_of_letters (lCons (eCall 2 f_law_piece (lCons (eName 0) (lCons (eBin gixP (eLst (lCons (eC (.int 3)) (lCons (eC (.int 40)) lNil))) (eBin fdivP (eCall 2 f_law_draw (lCons (eName 0) (lCons (eC (.int 5)) lNil))) (eC (.int 4)))) lNil))) lNil)) lNil)))
    (sSeq (sLet 5 (eBin gixP (eLst (lCons (eName 4) (lCons (eName 4) (lCons (eName 4) (lCons (eC (dS "0,1,1,0")) (lCons (eC (dS "1,0,0,1")) lNil)))))) (eCall 2 f_law_draw (lCons (eName 0) (lCons (eC (.int 5)) lNil)))))
    (sSeq (sLet 6 (eLst (lCons (eBin addP (eC (dS "mill ")) (eMtS joinP (eC (dS " ")) (lCons (eName 3) lNil))) (lCons (eC (dS "undo")) (lCons (eC (dS "text")) (lCons (eC (dS "now")) (lCons (eC (dS "rests")) (lCons (eBin addP (eBin addP (eBin addP (eC (dS "put ")) (eName 2)) (eC (dS " "))) (eName 5)) (lCons (eBin addP (eC (dS "drop ")) (eName 2)) lNil)))))))))
    (sRet (eBin gixP (eBin addP (eName 6) (eBin mulP (eLst (lCons (eBin addP (eC (dS "feed ")) (eName 2)) lNil)) (eC (.int 6)))) (eCall 2 f_law_draw (lCons (eName 0) (lCons (eC (.int 13)) lNil))))))))))
def f_law_mill_word : Fn := runFn 8 c_law_mill_word
--DEF _law_other_row
def c_law_other_row : CS :=
    (sSeq (sLet 3 (eCall 2 f_law_draw (lCons (eName 0) (lCons (eBin addP (eCallB lenP (lCons (eName 1) lNil)) (eC (.int 1))) lNil))))
    (sSeq (sSet 4 (eLst (lCons (eBin addP (eSlice slD (eName 1) oNone (oSome (eName 3))) (eSlice slD (eName 1) (oSome (eBin addP (eName 3) (eC (.int 1)))) oNone)) (lCons (eBin addP (eBin addP (eSlice slD (eName 1) oNone (oSome (eName 3))) (eLst (lCons (eCall 2 f_law_draw (lCons (eName 0) (lCons (eName 2) lNil))) lNil))) (eSlice slD (eName 1) (oSome (eName 3)) oNone)) (lCons (eCallB listP (lCons (eName 1) lNil)) lNil)))))
    (sSeq (sExpr (eMut 4 isL appendM (lCons (eBin addP (eBin addP (eSlice slD (eName 1) oNone (oSome (eName 3))) (eUn revP (eSlice slD (eName 1) (oSome (eName 3)) (oSome (eBin addP (eName 3) (eC (.int 2))))))) (eSlice slD (eName 1) (oSome (eBin addP (eName 3) (eC (.int 2)))) oNone)) lNil)))
    (sRet (eBin gixP (eName 4) (eCall 2 f_law_draw (lCons (eName 0) (lCons (eC (.int 4)) lNil))))))))
def f_law_other_row : Fn := runFn 5 c_law_other_row
--DEF _law_pairs
def c_law_pairs : CS :=
    (sRet (eMtS joinP (eC (dS "")) (lCons (eComp 1 (iAny (eName 0)) bYes (eBin gixP (eLst (lCons (eC (dS "rr")) (lCons (eC (dS "ll")) lNil))) (eCallB intP (lCons (eBin eqP (eName 1) (eC (dS "v"))) lNil)))) lNil)))
def f_law_pairs : Fn := runFn 2 c_law_pairs
--DEF _law_as_wide
def c_law_as_wide : CS :=
    (sRet (eMtS joinP (eC (dS "")) (lCons (eComp 1 (iAny (eName 0)) bYes (eBin gixP (eLst (lCons (eC (dS "u")) (lCons (eC (dS "v")) lNil))) (eCallB intP (lCons (eBin eqP (eName 1) (eC (dS "l"))) lNil)))) lNil)))
def f_law_as_wide : Fn := runFn 2 c_law_as_wide
--DEF _law_any_order
def c_law_any_order : CS :=
    (sSeq (sSet 2 (eLst lNil))
    (sSeq (sFor (iRng1' (lCons (eName 1) lNil)) (gSet 3) (sExpr (eMut 2 isL insertM (lCons (eCall 2 f_law_draw (lCons (eName 0) (lCons (eBin addP (eName 3) (eC (.int 1))) lNil))) (lCons (eName 3) lNil)))))
    (sRet (eName 2))))
def f_law_any_order : Fn := runFn 4 c_law_any_order
--DEF _law_case
def c_law_case : CS :=
    (sSeq (sLet 1 (eCall 3 f_law_short_makers (lCons (eName 0) (lCons (eC (.int 6)) (lCons (eC (.int 24)) lNil)))))
    (sSeq (sLet 2 (eMtS joinP (eC (dS "")) (lCons (eComp 9 (iRng1' (lCons (eCall 2 f_law_draw (lCons (eName 0) (lCons (eC (.int 4)) lNil))) lNil)) bYes (eBin gixP (eName 1) (eCall 2 f_law_draw (lCons (eName 0) (lCons (eCallB lenP (lCons (eName 1) lNil)) lNil))))) lNil)))
    (sSeq (sLet 3 (eSlice slD (eCall 2 f_law_wide_makers (lCons (eName 0) (lCons (eC (.int 6)) lNil))) oNone (oSome (eC (.int 4)))))
    (sSeq (sLet 4 (eCall 2 f_law_signed (lCons (eName 0) (lCons (eCallB lenP (lCons (eName 3) lNil)) lNil))))
    (sSeq (sLet 5 (eComp 8 (iAny (eName 1)) bYes (eCall 1 f_law_of_letters (lCons (eName 8) lNil))))
    (sSeq (sLet 6 (eComp 8 (iAny (eName 3)) bYes (eCall 1 f_law_of_letters (lCons (eName 8) lNil))))
    (sSeq (sLet 7 (eTup (lCons (eCall 1 f_law_of_letters (lCons (eName 2) lNil)) (lCons (eCall 1 f_law_of_letters (lCons (eCall 2 f_law_row_text (lCons (eName 3) (lCons (eName 4) lNil))) lNil)) lNil))))
    (sRet (eTup (lCons (eName 5) (lCons (eName 6) (lCons (eName 7) (lCons (eName 4) (lCons (eCall 2 f_law_wide_text (lCons (eName 0) (lCons (eC (.int 9)) lNil))) (lCons (eCall 2 f_law_draw (lCons (eName 0) (lCons (eC (.int 9)) lNil))) lNil)))))))))))))))
def f_law_case : Fn := runFn 10 c_law_case
end QL

end
section
namespace QL
open PySem PySem.Spec L2 QW
noncomputable section
--DEF _law_can
def c_law_can : CS :=
    (sRet (eIf (bVal (eBin neP (eName 0) (eLst lNil))) (eBin noNP (eBin gixP (eBin gixP (eCall 2 f_law_counts (lCons (eName 0) (lCons (eName 1) lNil))) (eUn negP (eC (.int 1)))) (eC (.int 0))) (eC .non)) (eBin eqP (eName 1) (eC (dS "")))))
def f_law_can : Fn := runFn 2 c_law_can
--DEF _law_needed
def c_law_needed : CS :=
    (sSeq (sSet 1 (eLst lNil))
    (sSeq (sFor (iRng1' (lCons (eCallB lenP (lCons (eName 0) lNil)) lNil)) (gSet 2) (sSeq (sLet 3 (eComp 4 (iAny (eName 0)) (bVal (eBin neP (eName 4) (eBin gixP (eName 0) (eName 2)))) (eName 4)))
    (sIf (bAnd (bVal (eBin nmP (eBin gixP (eName 0) (eName 2)) (eSlice slD (eName 0) oNone (oSome (eName 2))))) (bNot (bVal (eCall 2 f_law_can (lCons (eName 3) (lCons (eBin gixP (eName 0) (eName 2)) lNil)))))) (sExpr (eMut 1 isL appendM (lCons (eName 2) lNil))) sNil)))
    (sRet (eName 1))))
def f_law_needed : Fn := runFn 5 c_law_needed
--DEF law
def claw : CS :=
    (sSeq (sFor (iRng1' (lCons (eCallB max2P (lCons (eC (.int 1)) (lCons (eCallB min2P (lCons (eC (.int 8)) (lCons (eCallB lenP (lCons (eName 0) lNil)) lNil))) lNil))) lNil)) (gSet 1) (sSeq (sSet 2 (eCall 2 f_law_draws (lCons (eName 0) (lCons (eName 1) lNil))))
    (sSeq (sLet 3 (eCall 1 f_law_makers (lCons (eName 2) lNil)))
    (sSeq (sLet 4 (eComp 14 (iAny (eName 3)) bYes (eCall 1 f_law_of_letters (lCons (eName 14) lNil))))
    (sSeq (sLet 5 (eCallB listP (lCons (eName 4) lNil)))
    (sSeq (sSet 6 (eCall 1 fneeded (lCons (eName 5) lNil)))
    (sSeq (sLet 7 (eCall 1 f_law_needed (lCons (eName 3) lNil)))
    (sSeq (sIf (bOr (bNot (bVal (eIsT .list (eName 6)))) (bOr (bVal (eBin neP (eName 6) (eName 7))) (bOr (bVal (eBin memP (eC (.bl false)) (eCompO 6 15 bYes (eCall 1 f_law_whole (lCons (eName 15) lNil))))) (bVal (eBin neP (eName 5) (eName 4)))))) (sRet (eC (.bl false))) sNil)
    (sSeq (sLet 8 (eComp 15 (iAny (eName 7)) bYes (eBin gixP (eName 3) (eName 15))))
    (sSeq (sLet 9 (eComp 15 (iAny (eName 7)) bYes (eBin gixP (eName 4) (eName 15))))
    (sSeq (sIf (bVal (eBin noBP (eCall 2 fsame (lCons (eName 5) (lCons (eName 9) lNil))) (eC (.bl true)))) (sRet (eC (.bl false))) sNil)
    (sSeq (sIf (bAnd (bVal (eBin gtP (eCallB lenP (lCons (eName 9) lNil)) (eC (.int 1)))) (bVal (eBin noBP (eCall 2 fsame (lCons (eSlice slD (eName 9) (oSome (eC (.int 1))) oNone) (lCons (eName 5) lNil))) (eC (.bl false))))) (sRet (eC (.bl false))) sNil)
    (sSeq (sLet 10 (eCall 3 f_law_other (lCons (eName 2) (lCons (eName 3) (lCons (eName 8) lNil)))))
    (sSeq (sLet 11 (eBin eqP (eComp 14 (iAny (eName 3)) (bNot (bVal (eCall 2 f_law_can (lCons (eName 10) (lCons (eName 14) lNil))))) (eName 14)) (eLst lNil)))
    (sSeq (sLet 11 (eAnd (eName 11) (eBin eqP (eComp 14 (iAny (eName 10)) (bNot (bVal (eCall 2 f_law_can (lCons (eName 3) (lCons (eName 14) lNil))))) (eName 14)) (eLst lNil))))
    (sSeq (sLet 12 (eComp 14 (iAny (eName 10)) bYes (eCall 1 f_law_of_letters (lCons (eName 14) lNil))))
    (sSeq (sFor (iAny (eLst (lCons (eCall 2 fsame (lCons (eName 5) (lCons (eCallB listP (lCons (eName 12) lNil)) lNil))) (lCons (eCall 2 fsame (lCons (eCallB listP (lCons (eName 12) lNil)) (lCons (eName 5) lNil))) lNil)))) (gSet 13) (sIf (bOr (bNot (bVal (eIsT .bool (eName 13)))) (bVal (eBin neP (eName 13) (eName 11)))) (sRet (eC (.bl false))) sNil))
    (sSeq (sExpr (eMut 6 isL appendM (lCons (eC (.int 0)) lNil)))
    (sIf (bVal (eBin neP (eCall 1 fneeded (lCons (eName 5) lNil)) (eName 7))) (sRet (eC (.bl false))) sNil)))))))))))))))))))
    (sRet (eC (.bl true))))
def flaw : Fn := runFn 16 claw
end
end QL

end
section
namespace QL
open PySem PySem.Spec PyProof.Rows L2 L2H QW
def topS (i : Nat) : Stmt := PySem.Challenge.pw_quadwords_k23_whole_needed_and_same.main.body.getD i (.Pass ⟨0, 0, 0, 0⟩)
abbrev S_law_draws : Stmt := topS 28
abbrev S_law_draw : Stmt := topS 25
abbrev S_law_piece : Stmt := topS 26
abbrev S_law_makers : Stmt := topS 27
abbrev Sworth : Stmt := topS 7
abbrev Sis_plain : Stmt := topS 10
abbrev Slook_at_plain : Stmt := topS 11
abbrev Sword_of : Stmt := topS 12
abbrev Smaker_word_rows : Stmt := topS 16
abbrev Swords_of : Stmt := topS 17
abbrev Srest_rows : Stmt := topS 18
abbrev Srow_for : Stmt := topS 19
abbrev Sneeded : Stmt := topS 21
abbrev S_law_counts : Stmt := topS 24
abbrev S_law_can : Stmt := topS 33
abbrev S_law_needed : Stmt := topS 34
abbrev S_law_other : Stmt := topS 35
abbrev S_law_times : Stmt := topS 29
abbrev S_law_made : Stmt := topS 30
abbrev S_law_of_letters : Stmt := topS 31
abbrev Ssame : Stmt := topS 22
abbrev S_law_whole : Stmt := topS 32
abbrev Slaw : Stmt := topS 36
structure Top (P : Program) (w : World) (K : PySem.W.Frag) (mg : Str → Option Value) (base : Heap) : Prop where
  d_law_draws : ∃ f fd, Fun K "_law_draws" "_law_draws" S_law_draws f fd ∧ mg "_law_draws" = some (.ref f)
  d_law_draw : ∃ f fd, Fun K "_law_draw" "_law_draw" S_law_draw f fd ∧ mg "_law_draw" = some (.ref f)
  d_law_piece : ∃ f fd, Fun K "_law_piece" "_law_piece" S_law_piece f fd ∧ mg "_law_piece" = some (.ref f)
  d_law_makers : ∃ f fd, Fun K "_law_makers" "_law_makers" S_law_makers f fd ∧ mg "_law_makers" = some (.ref f)
  dworth : ∃ f fd, Fun K "worth" "worth" Sworth f fd ∧ mg "worth" = some (.ref f)
  dis_plain : ∃ f fd, Fun K "is_plain" "is_plain" Sis_plain f fd ∧ mg "is_plain" = some (.ref f)
  dlook_at_plain : ∃ f fd, Fun K "look_at_plain" "look_at_plain" Slook_at_plain f fd ∧ mg "look_at_plain" = some (.ref f)
  dword_of : ∃ f fd, Fun K "word_of" "word_of" Sword_of f fd ∧ mg "word_of" = some (.ref f)
  dmaker_word_rows : ∃ f fd, Fun K "maker_word" "maker_word" Smaker_word_rows f fd ∧ mg "maker_word" = some (.ref f)
  dwords_of : ∃ f fd, Fun K "words_of" "words_of" Swords_of f fd ∧ mg "words_of" = some (.ref f)
  drest_rows : ∃ f fd, Fun K "rest_rows" "rest_rows" Srest_rows f fd ∧ mg "rest_rows" = some (.ref f)
  drow_for : ∃ f fd, Fun K "row_for" "row_for" Srow_for f fd ∧ mg "row_for" = some (.ref f)
  dneeded : ∃ f fd, Fun K "needed" "needed" Sneeded f fd ∧ mg "needed" = some (.ref f)
  d_law_counts : ∃ f fd, Fun K "_law_counts" "_law_counts" S_law_counts f fd ∧ mg "_law_counts" = some (.ref f)
  d_law_can : ∃ f fd, Fun K "_law_can" "_law_can" S_law_can f fd ∧ mg "_law_can" = some (.ref f)
  d_law_needed : ∃ f fd, Fun K "_law_needed" "_law_needed" S_law_needed f fd ∧ mg "_law_needed" = some (.ref f)
  d_law_other : ∃ f fd, Fun K "_law_other" "_law_other" S_law_other f fd ∧ mg "_law_other" = some (.ref f)
  d_law_times : ∃ f fd, Fun K "_law_times" "_law_times" S_law_times f fd ∧ mg "_law_times" = some (.ref f)
  d_law_made : ∃ f fd, Fun K "_law_made" "_law_made" S_law_made f fd ∧ mg "_law_made" = some (.ref f)
  d_law_of_letters : ∃ f fd, Fun K "_law_of_letters" "_law_of_letters" S_law_of_letters f fd ∧ mg "_law_of_letters" = some (.ref f)
  dsame : ∃ f fd, Fun K "same" "same" Ssame f fd ∧ mg "same" = some (.ref f)
  d_law_whole : ∃ f fd, Fun K "_law_whole" "_law_whole" S_law_whole f fd ∧ mg "_law_whole" = some (.ref f)
  dlaw : ∃ f fd, Fun K "law" "law" Slaw f fd ∧ mg "law" = some (.ref f)
  z_bool : mg "bool" = none
  z_enumerate : mg "enumerate" = none
  z_int : mg "int" = none
  z_isinstance : mg "isinstance" = none
  z_len : mg "len" = none
  z_list : mg "list" = none
  z_max : mg "max" = none
  z_min : mg "min" = none
  z_range : mg "range" = none
  z_sum : mg "sum" = none
  z_tuple : mg "tuple" = none
  g_MOST_LETTERS : ∃ tk, mg "MOST_LETTERS" = some (.int 400 tk)
  g_MOST_MAKERS : ∃ tk, mg "MOST_MAKERS" = some (.int 8 tk)
  g_MOST_OF_MAKER : ∃ tk, mg "MOST_OF_MAKER" = some (.int 40 tk)
  g_ONE : GTup K mg "ONE" [.int 1, .int 0, .int 0, .int 1]
  x_NoMakers : ExcV K mg "NoMakers"
  x_NoPlain : ExcV K mg "NoPlain"
  x_TooLong : ExcV K mg "TooLong"
section
variable {P : Program} {w : World} {K : PySem.W.Frag} {mg : Str → Option Value} {base : Heap}

theorem sc_law_draws : FnScope ["script", "k", "primes", "cell", "seed"] ["script", "k"] (defScope S_law_draws) := ⟨rfl, rfl, rfl, by decide +kernel, rfl, by decide +kernel, by decide +kernel⟩
theorem v_law_draws (E : Top P w K mg base) : FnV P w K mg base 1 "_law_draws" 2 f_law_draws := by
  obtain ⟨f, fd, F, hm⟩ := E.d_law_draws
  refine fn_v (k := 0) F sc_law_draws rfl hm (F.binds (ps := ["script", "k"]) fun _ _ _ _ _ _ us hl => match us, hl with | [_, _], _ => rfl) fun cdv A outer s H X' L hr => ?_
  have tk : L2N.Takes (cxOf (L2N.CX P w) P w K mg base ["script", "k", "primes", "cell", "seed"] "_law_draws" (defScope S_law_draws) f cdv A outer s H X') (fun cls d _ H => X' cls d H) := L2N.takes_of rfl rfl rfl rfl
  have hp : PassesOwn (model P w) (cxOf (L2N.CX P w) P w K mg base ["script", "k", "primes", "cell", "seed"] "_law_draws" (defScope S_law_draws) f cdv A outer s H X').A (cxOf (L2N.CX P w) P w K mg base ["script", "k", "primes", "cell", "seed"] "_law_draws" (defScope S_law_draws) f cdv A outer s H X').env (cxOf (L2N.CX P w) P w K mg base ["script", "k", "primes", "cell", "seed"] "_law_draws" (defScope S_law_draws) f cdv A outer s H X').xe := passes_of rfl
  have hu1 := hu1_of hr; have hu4 := hu4_of hr; have hu5 := hu5_of hr
  have nd := sc_law_draws.nd
  exact (vs_cons (vs_let (i := 2) (v_tup (va_cons v_int (va_cons v_int (va_cons v_int (va_cons v_int (va_cons v_int (va_cons v_int (va_cons v_int (va_cons v_int va_nil))))))))) nd)
      (vs_cons (vs_let (i := 3) (v_bin addP_ok addP_na (v_bin mulP_ok mulP_na v_int (v_name 1)) v_int) nd)
      (vs_cons (vs_if (vt_cmp ltP_ok (pB_na _) (v_name 1) (v_callB lenP_ok (pN_na _) (by rfl) E.z_len (by first | rfl | decide +kernel) (va_cons (v_name 0) va_nil))) (vs_one (vs_let (i := 3) (v_bin modP_ok (pV_na _) (v_ix (gixP_ok hu1) (pV_na _) (v_name 0) (v_name 1)) (v_bin mulP_ok mulP_na (v_bin powP_ok (pV_na _) v_int v_int) (v_bin powP_ok (pV_na _) v_int v_int))) nd)) (vs_one (vs_if (vt_cmp gtP_ok (pB_na _) (v_callB lenP_ok (pN_na _) (by rfl) E.z_len (by first | rfl | decide +kernel) (va_cons (v_name 0) va_nil)) v_int) (vs_one (vs_let (i := 3) (v_bin addP_ok addP_na (v_bin modP_ok (pV_na _) (v_ix (gixP_ok hu1) (pV_na _) (v_name 0) (v_bin modP_ok (pV_na _) (v_name 1) (v_callB lenP_ok (pN_na _) (by rfl) E.z_len (by first | rfl | decide +kernel) (va_cons (v_name 0) va_nil)))) (v_bin powP_ok (pV_na _) v_int v_int)) (v_bin mulP_ok mulP_na v_int (v_name 1))) nd)) vs_nil)))
      (vs_cons (vs_let (i := 4) (v_bin modP_ok (pV_na _) (v_bin mulP_ok mulP_na (v_bin addP_ok addP_na (v_bin addP_ok addP_na (v_bin modP_ok (pV_na _) (v_name 3) v_int) (v_bin mulP_ok mulP_na v_int (v_name 1))) v_int) (v_bin addP_ok addP_na v_int (v_bin mulP_ok mulP_na (v_bin mulP_ok mulP_na v_int (v_name 1)) (v_name 1)))) v_int) nd)
      (vs_cons (vs_let (i := 4) (v_bin addP_ok addP_na (v_bin addP_ok addP_na (v_bin modP_ok (pV_na _) (v_bin mulP_ok mulP_na (v_bin mulP_ok mulP_na (v_name 4) (v_name 4)) (v_name 4)) v_int) (v_name 1)) v_int) nd)
      (vs_one (vs_ret (v_lst (va_cons (v_bin mulP_ok mulP_na (v_name 3) (v_callTy intP_ok (pN_na _) (by rfl) E.z_int (by first | rfl | decide +kernel) (va_cons (v_cmp geP_ok (pB_na _) (v_name 3) (v_bin powP_ok (pV_na _) v_int v_int)) va_nil))) (va_cons (v_name 4) (va_cons (v_ix (gixP_ok hu1) (pV_na _) (v_name 2) (v_bin modP_ok (pV_na _) (v_name 1) v_int)) va_nil)))))))))))
theorem sc_law_draw : FnScope ["draws", "many", "found"] ["draws", "many"] (defScope S_law_draw) := ⟨rfl, rfl, rfl, by decide +kernel, rfl, by decide +kernel, by decide +kernel⟩
theorem v_law_draw (E : Top P w K mg base) : FnV P w K mg base 1 "_law_draw" 2 f_law_draw := by
  obtain ⟨f, fd, F, hm⟩ := E.d_law_draw
  refine fn_v (k := 0) F sc_law_draw rfl hm (F.binds (ps := ["draws", "many"]) fun _ _ _ _ _ _ us hl => match us, hl with | [_, _], _ => rfl) fun cdv A outer s H X' L hr => ?_
  have tk : L2N.Takes (cxOf (L2N.CX P w) P w K mg base ["draws", "many", "found"] "_law_draw" (defScope S_law_draw) f cdv A outer s H X') (fun cls d _ H => X' cls d H) := L2N.takes_of rfl rfl rfl rfl
  have hp : PassesOwn (model P w) (cxOf (L2N.CX P w) P w K mg base ["draws", "many", "found"] "_law_draw" (defScope S_law_draw) f cdv A outer s H X').A (cxOf (L2N.CX P w) P w K mg base ["draws", "many", "found"] "_law_draw" (defScope S_law_draw) f cdv A outer s H X').env (cxOf (L2N.CX P w) P w K mg base ["draws", "many", "found"] "_law_draw" (defScope S_law_draw) f cdv A outer s H X').xe := passes_of rfl
  have hu1 := hu1_of hr; have hu4 := hu4_of hr; have hu5 := hu5_of hr
  have nd := sc_law_draw.nd
  exact (vs_cons (vs_if (vt_cmp gtP_ok (pB_na _) (v_ix (gixP_ok hu1) (pV_na _) (v_name 0) v_int) v_int) (vs_cons (vs_let (i := 2) (v_bin modP_ok (pV_na _) (v_ix (gixP_ok hu1) (pV_na _) (v_name 0) v_int) (v_name 1)) nd)
      (vs_cons (vs_sub (s := 0) (v_bin fdivP_ok (pV_na _) (v_ix (gixP_ok hu1) (pV_na _) (v_name 0) v_int) (v_name 1)) v_int (setM_ok hu1))
      (vs_one (vs_ret (v_name 2))))) vs_nil)
      (vs_cons (vs_sub (s := 0) (v_bin addP_ok addP_na (v_bin modP_ok (pV_na _) (v_bin mulP_ok mulP_na (v_ix (gixP_ok hu1) (pV_na _) (v_name 0) v_int) v_int) (v_ix (gixP_ok hu1) (pV_na _) (v_name 0) v_int)) v_int) v_int (setM_ok hu1))
      (vs_one (vs_ret (v_bin modP_ok (pV_na _) (v_bin fdivP_ok (pV_na _) (v_bin modP_ok (pV_na _) (v_bin mulP_ok mulP_na (v_ix (gixP_ok hu1) (pV_na _) (v_name 0) v_int) (v_bin addP_ok addP_na (v_bin fdivP_ok (pV_na _) (v_ix (gixP_ok hu1) (pV_na _) (v_name 0) v_int) v_int) v_int)) v_int) v_int) (v_name 1))))))
theorem sc_law_piece : FnScope ["draws", "most", "way", "many", "text", "some", "k"] ["draws", "most"] (defScope S_law_piece) := ⟨rfl, rfl, rfl, by decide +kernel, rfl, by decide +kernel, by decide +kernel⟩
theorem v_law_piece (E : Top P w K mg base) : FnV P w K mg base 2 "_law_piece" 2 f_law_piece := by
  obtain ⟨f, fd, F, hm⟩ := E.d_law_piece
  refine fn_v (k := 1) F sc_law_piece rfl hm (F.binds (ps := ["draws", "most"]) fun _ _ _ _ _ _ us hl => match us, hl with | [_, _], _ => rfl) fun cdv A outer s H X' L hr => ?_
  have tk : L2N.Takes (cxOf (L2N.CX P w) P w K mg base ["draws", "most", "way", "many", "text", "some", "k"] "_law_piece" (defScope S_law_piece) f cdv A outer s H X') (fun cls d _ H => X' cls d H) := L2N.takes_of rfl rfl rfl rfl
  have hp : PassesOwn (model P w) (cxOf (L2N.CX P w) P w K mg base ["draws", "most", "way", "many", "text", "some", "k"] "_law_piece" (defScope S_law_piece) f cdv A outer s H X').A (cxOf (L2N.CX P w) P w K mg base ["draws", "most", "way", "many", "text", "some", "k"] "_law_piece" (defScope S_law_piece) f cdv A outer s H X').env (cxOf (L2N.CX P w) P w K mg base ["draws", "most", "way", "many", "text", "some", "k"] "_law_piece" (defScope S_law_piece) f cdv A outer s H X').xe := passes_of rfl
  have hu1 := hu1_of hr; have hu4 := hu4_of hr; have hu5 := hu5_of hr
  have nd := sc_law_piece.nd
  exact (vs_cons (vs_let (i := 2) (v_call (v_law_draw E) hr (by omega) tk (by rfl) (va_cons (v_name 0) (va_cons v_int va_nil))) nd)
      (vs_cons (vs_let (i := 3) (v_bin addP_ok addP_na v_int (v_call (v_law_draw E) hr (by omega) tk (by rfl) (va_cons (v_name 0) (va_cons (v_name 1) va_nil)))) nd)
      (vs_cons (vs_let (i := 4) (v_mtS PySem.F.slot_str_join PySem.F.type_str_join joinP_ok joinP_na v_str (va_cons (v_comp (j := 6) rfl nd (vi_range1 (by rfl) E.z_range (va_cons (v_name 3) va_nil)) (by first | rfl | decide +kernel) (fun _ _ _ _ _ => vts_nil) (fun _ _ _ _ _ => (v_ix (gixP_ok hu1) (pV_na _) v_str (v_call (v_law_draw E) hr (by omega) takesN0 (by rfl) (va_cons (v_name 0) (va_cons v_int va_nil)))))) va_nil)) nd)
      (vs_cons (vs_let (i := 5) (v_lst (va_cons (v_name 4) (va_cons (v_bin mulP_ok mulP_na (v_ix (gixP_ok hu1) (pV_na _) (v_name 4) v_int) (v_name 3)) (va_cons (v_slice slD_ok slD_na (v_bin mulP_ok mulP_na v_str (v_name 3)) vo_none (vo_some (v_name 3))) (va_cons (v_slice slD_ok slD_na (v_bin mulP_ok mulP_na (v_slice slD_ok slD_na (v_name 4) vo_none (vo_some v_int)) (v_name 3)) vo_none (vo_some (v_name 3))) va_nil))))) nd)
      (vs_one (vs_ret (v_ix (gixP_ok hu1) (pV_na _) (v_name 5) (v_name 2))))))))
theorem sc_law_makers : FnScope ["draws", "words", "many", "most", "k", "word", "one", "other", "way"] ["draws"] (defScope S_law_makers) := ⟨rfl, rfl, rfl, by decide +kernel, rfl, by decide +kernel, by decide +kernel⟩
theorem v_law_makers (E : Top P w K mg base) : FnV P w K mg base 3 "_law_makers" 1 f_law_makers := by
  obtain ⟨f, fd, F, hm⟩ := E.d_law_makers
  refine fn_v (k := 2) F sc_law_makers rfl hm (F.binds (ps := ["draws"]) fun _ _ _ _ _ _ us hl => match us, hl with | [_], _ => rfl) fun cdv A outer s H X' L hr => ?_
  have tk : L2N.Takes (cxOf (L2N.CX P w) P w K mg base ["draws", "words", "many", "most", "k", "word", "one", "other", "way"] "_law_makers" (defScope S_law_makers) f cdv A outer s H X') (fun cls d _ H => X' cls d H) := L2N.takes_of rfl rfl rfl rfl
  have hp : PassesOwn (model P w) (cxOf (L2N.CX P w) P w K mg base ["draws", "words", "many", "most", "k", "word", "one", "other", "way"] "_law_makers" (defScope S_law_makers) f cdv A outer s H X').A (cxOf (L2N.CX P w) P w K mg base ["draws", "words", "many", "most", "k", "word", "one", "other", "way"] "_law_makers" (defScope S_law_makers) f cdv A outer s H X').env (cxOf (L2N.CX P w) P w K mg base ["draws", "words", "many", "most", "k", "word", "one", "other", "way"] "_law_makers" (defScope S_law_makers) f cdv A outer s H X').xe := passes_of rfl
  have hu1 := hu1_of hr; have hu4 := hu4_of hr; have hu5 := hu5_of hr
  have nd := sc_law_makers.nd
  exact (vs_cons (vs_set (i := 1) (v_lst va_nil) nd)
      (vs_cons (vs_let (i := 2) (v_ix (gixP_ok hu1) (pV_na _) (v_lst (va_cons (v_bin addP_ok addP_na v_int (v_call (v_law_draw E) hr (by omega) tk (by rfl) (va_cons (v_name 0) (va_cons v_int va_nil)))) (va_cons v_int (va_cons v_int va_nil)))) (v_call (v_law_draw E) hr (by omega) tk (by rfl) (va_cons (v_name 0) (va_cons v_int va_nil)))) nd)
      (vs_cons (vs_let (i := 3) (v_ix (gixP_ok hu1) (pV_na _) (v_lst (va_cons v_int (va_cons v_int (va_cons v_int (va_cons v_int va_nil))))) (v_call (v_law_draw E) hr (by omega) tk (by rfl) (va_cons (v_name 0) (va_cons v_int va_nil)))) nd)
      (vs_cons (vs_for hp rfl (vi_range1 (by rfl) E.z_range (va_cons (v_name 2) va_nil)) (vg_name (i := 4) nd) (vs_cons (vs_let (i := 5) (v_call (v_law_piece E) hr (by omega) tk (by rfl) (va_cons (v_name 0) (va_cons (v_name 3) va_nil))) nd)
      (vs_cons (vs_if (vt_cmp (neP_ok hu4) (pB_na _) (v_name 1) (v_lst va_nil)) (vs_cons (vs_let (i := 6) (v_ix (gixP_ok hu1) (pV_na _) (v_name 1) (v_call (v_law_draw E) hr (by omega) tk (by rfl) (va_cons (v_name 0) (va_cons (v_callB lenP_ok (pN_na _) (by rfl) E.z_len (by first | rfl | decide +kernel) (va_cons (v_name 1) va_nil)) va_nil)))) nd)
      (vs_cons (vs_let (i := 7) (v_ix (gixP_ok hu1) (pV_na _) (v_name 1) (v_call (v_law_draw E) hr (by omega) tk (by rfl) (va_cons (v_name 0) (va_cons (v_callB lenP_ok (pN_na _) (by rfl) E.z_len (by first | rfl | decide +kernel) (va_cons (v_name 1) va_nil)) va_nil)))) nd)
      (vs_cons (vs_let (i := 8) (v_call (v_law_draw E) hr (by omega) tk (by rfl) (va_cons (v_name 0) (va_cons v_int va_nil))) nd)
      (vs_one (vs_if (vt_cmp ltP_ok (pB_na _) (v_name 8) v_int) (vs_one (vs_let (i := 5) (v_ix (gixP_ok hu1) (pV_na _) (v_lst (va_cons (v_bin addP_ok addP_na (v_name 6) (v_name 7)) (va_cons (v_bin addP_ok addP_na (v_name 6) (v_name 5)) (va_cons (v_bin addP_ok addP_na (v_name 5) (v_name 6)) (va_cons (v_name 6) va_nil))))) (v_name 8)) nd)) vs_nil))))) vs_nil)
      (vs_one (vs_expr (v_mut (fun ob h => (tyV_own ob).1 h) PySem.F.plainAttrs_list PySem.F.slot_list_append PySem.F.type_list_append appendM_ok (va_cons (v_slice slD_ok slD_na (v_name 5) vo_none (vo_some v_int)) va_nil)))))))
      (vs_one (vs_ret (v_name 1)))))))
theorem scworth : FnScope ["table"] ["table"] (defScope Sworth) := ⟨rfl, rfl, rfl, by decide +kernel, rfl, by decide +kernel, by decide +kernel⟩
theorem vworth (E : Top P w K mg base) : FnV P w K mg base 1 "worth" 1 fworth := by
  obtain ⟨f, fd, F, hm⟩ := E.dworth
  refine fn_v (k := 0) F scworth rfl hm (F.binds (ps := ["table"]) fun _ _ _ _ _ _ us hl => match us, hl with | [_], _ => rfl) fun cdv A outer s H X' L hr => ?_
  have tk : L2N.Takes (cxOf (L2N.CX P w) P w K mg base ["table"] "worth" (defScope Sworth) f cdv A outer s H X') (fun cls d _ H => X' cls d H) := L2N.takes_of rfl rfl rfl rfl
  have hp : PassesOwn (model P w) (cxOf (L2N.CX P w) P w K mg base ["table"] "worth" (defScope Sworth) f cdv A outer s H X').A (cxOf (L2N.CX P w) P w K mg base ["table"] "worth" (defScope Sworth) f cdv A outer s H X').env (cxOf (L2N.CX P w) P w K mg base ["table"] "worth" (defScope Sworth) f cdv A outer s H X').xe := passes_of rfl
  have hu1 := hu1_of hr; have hu4 := hu4_of hr; have hu5 := hu5_of hr
  have nd := scworth.nd
  exact (vs_one (vs_ret (v_bin subP_ok (pV_na _) (v_bin mulP_ok mulP_na (v_ix (gixP_ok hu1) (pV_na _) (v_name 0) v_int) (v_ix (gixP_ok hu1) (pV_na _) (v_name 0) v_int)) (v_bin mulP_ok mulP_na (v_ix (gixP_ok hu1) (pV_na _) (v_name 0) v_int) (v_ix (gixP_ok hu1) (pV_na _) (v_name 0) v_int)))))
theorem scis_plain : FnScope ["table"] ["table"] (defScope Sis_plain) := ⟨rfl, rfl, rfl, by decide +kernel, rfl, by decide +kernel, by decide +kernel⟩
theorem vis_plain (E : Top P w K mg base) : FnV P w K mg base 2 "is_plain" 1 fis_plain := by
  obtain ⟨f, fd, F, hm⟩ := E.dis_plain
  refine fn_v (k := 1) F scis_plain rfl hm (F.binds (ps := ["table"]) fun _ _ _ _ _ _ us hl => match us, hl with | [_], _ => rfl) fun cdv A outer s H X' L hr => ?_
  have tk : L2N.Takes (cxOf (L2N.CX P w) P w K mg base ["table"] "is_plain" (defScope Sis_plain) f cdv A outer s H X') (fun cls d _ H => X' cls d H) := L2N.takes_of rfl rfl rfl rfl
  have hp : PassesOwn (model P w) (cxOf (L2N.CX P w) P w K mg base ["table"] "is_plain" (defScope Sis_plain) f cdv A outer s H X').A (cxOf (L2N.CX P w) P w K mg base ["table"] "is_plain" (defScope Sis_plain) f cdv A outer s H X').env (cxOf (L2N.CX P w) P w K mg base ["table"] "is_plain" (defScope Sis_plain) f cdv A outer s H X').xe := passes_of rfl
  have hu1 := hu1_of hr; have hu4 := hu4_of hr; have hu5 := hu5_of hr
  have nd := scis_plain.nd
  exact (vs_one (vs_ret (v_and (v_cmp geP_ok (pB_na _) (v_callB (min1P_ok rfl hu4) (pN_na _) (by rfl) E.z_min (by first | rfl | decide +kernel) (va_cons (v_name 0) va_nil)) v_int) (v_one (v_cmp (eqP_ok hu4) (pB_na _) (v_call (vworth E) hr (by omega) tk (by rfl) (va_cons (v_name 0) va_nil)) v_int)))))
theorem sclook_at_plain : FnScope ["table"] ["table"] (defScope Slook_at_plain) := ⟨rfl, rfl, rfl, by decide +kernel, rfl, by decide +kernel, by decide +kernel⟩
theorem vlook_at_plain (E : Top P w K mg base) : FnV P w K mg base 3 "look_at_plain" 1 flook_at_plain := by
  obtain ⟨f, fd, F, hm⟩ := E.dlook_at_plain
  refine fn_v (k := 2) F sclook_at_plain rfl hm (F.binds (ps := ["table"]) fun _ _ _ _ _ _ us hl => match us, hl with | [_], _ => rfl) fun cdv A outer s H X' L hr => ?_
  have tk : L2N.Takes (cxOf (L2N.CX P w) P w K mg base ["table"] "look_at_plain" (defScope Slook_at_plain) f cdv A outer s H X') (fun cls d _ H => X' cls d H) := L2N.takes_of rfl rfl rfl rfl
  have hp : PassesOwn (model P w) (cxOf (L2N.CX P w) P w K mg base ["table"] "look_at_plain" (defScope Slook_at_plain) f cdv A outer s H X').A (cxOf (L2N.CX P w) P w K mg base ["table"] "look_at_plain" (defScope Slook_at_plain) f cdv A outer s H X').env (cxOf (L2N.CX P w) P w K mg base ["table"] "look_at_plain" (defScope Slook_at_plain) f cdv A outer s H X').xe := passes_of rfl
  have hu1 := hu1_of hr; have hu4 := hu4_of hr; have hu5 := hu5_of hr
  have nd := sclook_at_plain.nd
  exact (vs_one (vs_if (vt_not (vt_val (v_call (vis_plain E) hr (by omega) tk (by rfl) (va_cons (v_name 0) va_nil)))) (vs_one (vs_raise rfl tk E.x_NoPlain (by rfl))) vs_nil))
theorem scword_of : FnScope ["table", "a", "b", "c", "d", "letters"] ["table"] (defScope Sword_of) := ⟨rfl, rfl, rfl, by decide +kernel, rfl, by decide +kernel, by decide +kernel⟩
theorem vword_of (E : Top P w K mg base) : FnV P w K mg base 4 "word_of" 1 fword_of := by
  obtain ⟨f, fd, F, hm⟩ := E.dword_of
  refine fn_v (k := 3) F scword_of rfl hm (F.binds (ps := ["table"]) fun _ _ _ _ _ _ us hl => match us, hl with | [_], _ => rfl) fun cdv A outer s H X' L hr => ?_
  have tk : L2N.Takes (cxOf (L2N.CX P w) P w K mg base ["table", "a", "b", "c", "d", "letters"] "word_of" (defScope Sword_of) f cdv A outer s H X') (fun cls d _ H => X' cls d H) := L2N.takes_of rfl rfl rfl rfl
  have hp : PassesOwn (model P w) (cxOf (L2N.CX P w) P w K mg base ["table", "a", "b", "c", "d", "letters"] "word_of" (defScope Sword_of) f cdv A outer s H X').A (cxOf (L2N.CX P w) P w K mg base ["table", "a", "b", "c", "d", "letters"] "word_of" (defScope Sword_of) f cdv A outer s H X').env (cxOf (L2N.CX P w) P w K mg base ["table", "a", "b", "c", "d", "letters"] "word_of" (defScope Sword_of) f cdv A outer s H X').xe := passes_of rfl
  have hu1 := hu1_of hr; have hu4 := hu4_of hr; have hu5 := hu5_of hr
  have nd := scword_of.nd
  exact (vs_cons (vs_expr (v_call (vlook_at_plain E) hr (by omega) tk (by rfl) (va_cons (v_name 0) va_nil)))
      (vs_cons (vs_asg (v_name 0) (vg_tup rfl (vgs_cons (vg_name (i := 1) nd) (vgs_cons (vg_name (i := 2) nd) (vgs_cons (vg_name (i := 3) nd) (vgs_cons (vg_name (i := 4) nd) vgs_nil))))))
      (vs_cons (vs_set (i := 5) (v_lst va_nil) nd)
      (vs_cons (vs_while fuelW hp (vt_cmp (neP_ok hu4) (pB_na _) (v_tup (va_cons (v_name 1) (va_cons (v_name 2) (va_cons (v_name 3) (va_cons (v_name 4) va_nil))))) (v_gtup E.g_ONE (by rfl))) (vs_cons (vs_if (vt_cmp (eqP_ok hu4) (pB_na _) (v_callB lenP_ok (pN_na _) (by rfl) E.z_len (by first | rfl | decide +kernel) (va_cons (v_name 5) va_nil)) (v_gint E.g_MOST_LETTERS (by rfl))) (vs_one (vs_raise rfl tk E.x_TooLong (by rfl))) vs_nil)
      (vs_one (vs_if (vt_w (vw_and (vt_cmp geP_ok (pB_na _) (v_name 1) (v_name 3)) (vw_and1 (vt_cmp geP_ok (pB_na _) (v_name 2) (v_name 4))))) (vs_cons (vs_expr (v_mut (fun ob h => (tyV_own ob).1 h) PySem.F.plainAttrs_list PySem.F.slot_list_append PySem.F.type_list_append appendM_ok (va_cons v_str va_nil)))
      (vs_one (vs_par (i := 1) (j := 2) (va_cons (v_bin subP_ok (pV_na _) (v_name 1) (v_name 3)) (va_cons (v_bin subP_ok (pV_na _) (v_name 2) (v_name 4)) va_nil)) nd))) (vs_cons (vs_expr (v_mut (fun ob h => (tyV_own ob).1 h) PySem.F.plainAttrs_list PySem.F.slot_list_append PySem.F.type_list_append appendM_ok (va_cons v_str va_nil)))
      (vs_one (vs_par (i := 3) (j := 4) (va_cons (v_bin subP_ok (pV_na _) (v_name 3) (v_name 1)) (va_cons (v_bin subP_ok (pV_na _) (v_name 4) (v_name 2)) va_nil)) nd)))))))
      (vs_one (vs_ret (v_mtS PySem.F.slot_str_join PySem.F.type_str_join joinP_ok joinP_na v_str (va_cons (v_name 5) va_nil))))))))
theorem scmaker_word_rows : FnScope ["table", "word"] ["table"] (defScope Smaker_word_rows) := ⟨rfl, rfl, rfl, by decide +kernel, rfl, by decide +kernel, by decide +kernel⟩
theorem vmaker_word_rows (E : Top P w K mg base) : FnV P w K mg base 5 "maker_word" 1 fmaker_word_rows := by
  obtain ⟨f, fd, F, hm⟩ := E.dmaker_word_rows
  refine fn_v (k := 4) F scmaker_word_rows rfl hm (F.binds (ps := ["table"]) fun _ _ _ _ _ _ us hl => match us, hl with | [_], _ => rfl) fun cdv A outer s H X' L hr => ?_
  have tk : L2N.Takes (cxOf (L2N.CX P w) P w K mg base ["table", "word"] "maker_word" (defScope Smaker_word_rows) f cdv A outer s H X') (fun cls d _ H => X' cls d H) := L2N.takes_of rfl rfl rfl rfl
  have hp : PassesOwn (model P w) (cxOf (L2N.CX P w) P w K mg base ["table", "word"] "maker_word" (defScope Smaker_word_rows) f cdv A outer s H X').A (cxOf (L2N.CX P w) P w K mg base ["table", "word"] "maker_word" (defScope Smaker_word_rows) f cdv A outer s H X').env (cxOf (L2N.CX P w) P w K mg base ["table", "word"] "maker_word" (defScope Smaker_word_rows) f cdv A outer s H X').xe := passes_of rfl
  have hu1 := hu1_of hr; have hu4 := hu4_of hr; have hu5 := hu5_of hr
  have nd := scmaker_word_rows.nd
  exact (vs_cons (vs_if (vt_not (vt_val (v_call (vis_plain E) hr (by omega) tk (by rfl) (va_cons (v_name 0) va_nil)))) (vs_one (vs_raise rfl tk E.x_NoMakers (by rfl))) vs_nil)
      (vs_cons (vs_tryR (vs_one (vs_let (i := 1) (v_call (vword_of E) hr (by omega) takesN0 (by rfl) (va_cons (v_name 0) va_nil)) nd)))
      (vs_cons (vs_if (vt_not (vt_chain leP_ok leP_ok pB_bl (pB_na _) v_int (v_callB lenP_ok (pN_na _) (by rfl) E.z_len (by first | rfl | decide +kernel) (va_cons (v_name 1) va_nil)) (v_gint E.g_MOST_OF_MAKER (by rfl)))) (vs_one (vs_raise rfl tk E.x_NoMakers (by rfl))) vs_nil)
      (vs_one (vs_ret (v_name 1))))))
theorem scwords_of : FnScope ["makers", "table"] ["makers"] (defScope Swords_of) := ⟨rfl, rfl, rfl, by decide +kernel, rfl, by decide +kernel, by decide +kernel⟩
theorem vwords_of (E : Top P w K mg base) : FnV P w K mg base 6 "words_of" 1 fwords_of := by
  obtain ⟨f, fd, F, hm⟩ := E.dwords_of
  refine fn_v (k := 5) F scwords_of rfl hm (F.binds (ps := ["makers"]) fun _ _ _ _ _ _ us hl => match us, hl with | [_], _ => rfl) fun cdv A outer s H X' L hr => ?_
  have tk : L2N.Takes (cxOf (L2N.CX P w) P w K mg base ["makers", "table"] "words_of" (defScope Swords_of) f cdv A outer s H X') (fun cls d _ H => X' cls d H) := L2N.takes_of rfl rfl rfl rfl
  have hp : PassesOwn (model P w) (cxOf (L2N.CX P w) P w K mg base ["makers", "table"] "words_of" (defScope Swords_of) f cdv A outer s H X').A (cxOf (L2N.CX P w) P w K mg base ["makers", "table"] "words_of" (defScope Swords_of) f cdv A outer s H X').env (cxOf (L2N.CX P w) P w K mg base ["makers", "table"] "words_of" (defScope Swords_of) f cdv A outer s H X').xe := passes_of rfl
  have hu1 := hu1_of hr; have hu4 := hu4_of hr; have hu5 := hu5_of hr
  have nd := scwords_of.nd
  exact (vs_cons (vs_if (vt_not (vt_chain leP_ok leP_ok pB_bl (pB_na _) v_int (v_callB lenP_ok (pN_na _) (by rfl) E.z_len (by first | rfl | decide +kernel) (va_cons (v_name 0) va_nil)) (v_gint E.g_MOST_MAKERS (by rfl)))) (vs_one (vs_raise rfl tk E.x_NoMakers (by rfl))) vs_nil)
      (vs_one (vs_ret (v_comp (j := 1) rfl nd (vi_any (v_name 0)) (by first | rfl | decide +kernel) (fun _ _ _ _ _ => vts_nil) (fun _ _ _ _ _ => (v_call (vmaker_word_rows E) hr (by omega) takesN0 (by rfl) (va_cons (v_name 1) va_nil)))))))
theorem screst_rows : FnScope ["words", "word", "found", "at", "best", "many", "maker", "rest"] ["words", "word"] (defScope Srest_rows) := ⟨rfl, rfl, rfl, by decide +kernel, rfl, by decide +kernel, by decide +kernel⟩
theorem vrest_rows (E : Top P w K mg base) : FnV P w K mg base 1 "rest_rows" 2 frest_rows := by
  obtain ⟨f, fd, F, hm⟩ := E.drest_rows
  refine fn_v (k := 0) F screst_rows rfl hm (F.binds (ps := ["words", "word"]) fun _ _ _ _ _ _ us hl => match us, hl with | [_, _], _ => rfl) fun cdv A outer s H X' L hr => ?_
  have tk : L2N.Takes (cxOf (L2N.CX P w) P w K mg base ["words", "word", "found", "at", "best", "many", "maker", "rest"] "rest_rows" (defScope Srest_rows) f cdv A outer s H X') (fun cls d _ H => X' cls d H) := L2N.takes_of rfl rfl rfl rfl
  have hp : PassesOwn (model P w) (cxOf (L2N.CX P w) P w K mg base ["words", "word", "found", "at", "best", "many", "maker", "rest"] "rest_rows" (defScope Srest_rows) f cdv A outer s H X').A (cxOf (L2N.CX P w) P w K mg base ["words", "word", "found", "at", "best", "many", "maker", "rest"] "rest_rows" (defScope Srest_rows) f cdv A outer s H X').env (cxOf (L2N.CX P w) P w K mg base ["words", "word", "found", "at", "best", "many", "maker", "rest"] "rest_rows" (defScope Srest_rows) f cdv A outer s H X').xe := passes_of rfl
  have hu1 := hu1_of hr; have hu4 := hu4_of hr; have hu5 := hu5_of hr
  have nd := screst_rows.nd
  exact (vs_cons (vs_set (i := 2) (v_lst (va_cons (v_tup (va_cons v_int (va_cons v_int va_nil))) va_nil)) nd)
      (vs_cons (vs_for hp rfl (vi_range3 (by rfl) E.z_range (va_cons (v_bin subP_ok (pV_na _) (v_callB lenP_ok (pN_na _) (by rfl) E.z_len (by first | rfl | decide +kernel) (va_cons (v_name 1) va_nil)) v_int) (va_cons (v_un negP_ok negP_na v_int) (va_cons (v_un negP_ok negP_na v_int) va_nil)))) (vg_name (i := 3) nd) (vs_cons (vs_let (i := 4) v_non nd)
      (vs_cons (vs_let (i := 5) v_int nd)
      (vs_cons (vs_for hp rfl (vi_any (v_name 0)) (vg_name (i := 6) nd) (vs_one (vs_if (vt_val (v_mtS PySem.F.slot_str_startswith PySem.F.type_str_startswith startP_ok startP_na (v_name 1) (va_cons (v_name 6) (va_cons (v_name 3) va_nil)))) (vs_cons (vs_let (i := 7) (v_ix (gixP_ok hu1) (pV_na _) (v_name 2) (v_bin subP_ok (pV_na _) (v_callB lenP_ok (pN_na _) (by rfl) E.z_len (by first | rfl | decide +kernel) (va_cons (v_name 6) va_nil)) v_int)) nd)
      (vs_cons (vs_let (i := 5) (v_bin addP_ok addP_na (v_name 5) (v_ix (gixP_ok hu1) (pV_na _) (v_name 7) v_int)) nd)
      (vs_one (vs_if (vt_w (vw_and (vt_cmp noNP_ok (pB_na _) (v_ix (gixP_ok hu1) (pV_na _) (v_name 7) v_int) v_non) (vw_and1 (vt_w (vw_or (vt_cmp isNP_ok (pB_na _) (v_name 4) v_non) (vw_or1 (vt_cmp ltP_ok (pB_na _) (v_bin addP_ok addP_na (v_ix (gixP_ok hu1) (pV_na _) (v_name 7) v_int) v_int) (v_name 4)))))))) (vs_one (vs_let (i := 4) (v_bin addP_ok addP_na (v_ix (gixP_ok hu1) (pV_na _) (v_name 7) v_int) v_int) nd)) vs_nil)))) vs_nil)))
      (vs_one (vs_expr (v_mut (fun ob h => (tyV_own ob).1 h) PySem.F.plainAttrs_list PySem.F.slot_list_insert PySem.F.type_list_insert insertM_ok (va_cons v_int (va_cons (v_tup (va_cons (v_name 4) (va_cons (v_name 5) va_nil))) va_nil)))))))))
      (vs_one (vs_ret (v_name 2)))))
theorem scrow_for : FnScope ["words", "word", "rests", "row", "at", "k"] ["words", "word"] (defScope Srow_for) := ⟨rfl, rfl, rfl, by decide +kernel, rfl, by decide +kernel, by decide +kernel⟩
theorem vrow_for (E : Top P w K mg base) : FnV P w K mg base 2 "row_for" 2 frow_for := by
  obtain ⟨f, fd, F, hm⟩ := E.drow_for
  refine fn_v (k := 1) F scrow_for rfl hm (F.binds (ps := ["words", "word"]) fun _ _ _ _ _ _ us hl => match us, hl with | [_, _], _ => rfl) fun cdv A outer s H X' L hr => ?_
  have tk : L2N.Takes (cxOf (L2N.CX P w) P w K mg base ["words", "word", "rests", "row", "at", "k"] "row_for" (defScope Srow_for) f cdv A outer s H X') (fun cls d _ H => X' cls d H) := L2N.takes_of rfl rfl rfl rfl
  have hp : PassesOwn (model P w) (cxOf (L2N.CX P w) P w K mg base ["words", "word", "rests", "row", "at", "k"] "row_for" (defScope Srow_for) f cdv A outer s H X').A (cxOf (L2N.CX P w) P w K mg base ["words", "word", "rests", "row", "at", "k"] "row_for" (defScope Srow_for) f cdv A outer s H X').env (cxOf (L2N.CX P w) P w K mg base ["words", "word", "rests", "row", "at", "k"] "row_for" (defScope Srow_for) f cdv A outer s H X').xe := passes_of rfl
  have hu1 := hu1_of hr; have hu4 := hu4_of hr; have hu5 := hu5_of hr
  have nd := scrow_for.nd
  exact (vs_cons (vs_let (i := 2) (v_call (vrest_rows E) hr (by omega) tk (by rfl) (va_cons (v_name 0) (va_cons (v_name 1) va_nil))) nd)
      (vs_cons (vs_if (vt_cmp isNP_ok (pB_na _) (v_ix (gixP_ok hu1) (pV_na _) (v_ix (gixP_ok hu1) (pV_na _) (v_name 2) v_int) v_int) v_non) (vs_one (vs_ret v_non)) vs_nil)
      (vs_cons (vs_set (i := 3) (v_lst va_nil) nd)
      (vs_cons (vs_let (i := 4) v_int nd)
      (vs_cons (vs_while fuelW hp (vt_cmp ltP_ok (pB_na _) (v_name 4) (v_callB lenP_ok (pN_na _) (by rfl) E.z_len (by first | rfl | decide +kernel) (va_cons (v_name 1) va_nil))) (vs_cons (vs_let (i := 5) v_int nd)
      (vs_cons (vs_while fuelW hp (vt_w (vw_or (vt_not (vt_val (v_mtS PySem.F.slot_str_startswith PySem.F.type_str_startswith startP_ok startP_na (v_name 1) (va_cons (v_ix (gixP_ok hu1) (pV_na _) (v_name 0) (v_name 5)) (va_cons (v_name 4) va_nil))))) (vw_or1 (vt_cmp (neP_ok hu4) (pB_na _) (v_ix (gixP_ok hu1) (pV_na _) (v_ix (gixP_ok hu1) (pV_na _) (v_name 2) (v_bin addP_ok addP_na (v_name 4) (v_callB lenP_ok (pN_na _) (by rfl) E.z_len (by first | rfl | decide +kernel) (va_cons (v_ix (gixP_ok hu1) (pV_na _) (v_name 0) (v_name 5)) va_nil)))) v_int) (v_bin subP_ok (pV_na _) (v_ix (gixP_ok hu1) (pV_na _) (v_ix (gixP_ok hu1) (pV_na _) (v_name 2) (v_name 4)) v_int) v_int))))) (vs_one (vs_let (i := 5) (v_bin addP_ok addP_na (v_name 5) v_int) nd)))
      (vs_cons (vs_expr (v_mut (fun ob h => (tyV_own ob).1 h) PySem.F.plainAttrs_list PySem.F.slot_list_append PySem.F.type_list_append appendM_ok (va_cons (v_name 5) va_nil)))
      (vs_one (vs_let (i := 4) (v_bin addP_ok addP_na (v_name 4) (v_callB lenP_ok (pN_na _) (by rfl) E.z_len (by first | rfl | decide +kernel) (va_cons (v_ix (gixP_ok hu1) (pV_na _) (v_name 0) (v_name 5)) va_nil))) nd))))))
      (vs_one (vs_ret (v_name 3))))))))
theorem scneeded : FnScope ["makers", "words", "found", "k", "word", "others", "other"] ["makers"] (defScope Sneeded) := ⟨rfl, rfl, rfl, by decide +kernel, rfl, by decide +kernel, by decide +kernel⟩
theorem vneeded (E : Top P w K mg base) : FnV P w K mg base 7 "needed" 1 fneeded := by
  obtain ⟨f, fd, F, hm⟩ := E.dneeded
  refine fn_v (k := 6) F scneeded rfl hm (F.binds (ps := ["makers"]) fun _ _ _ _ _ _ us hl => match us, hl with | [_], _ => rfl) fun cdv A outer s H X' L hr => ?_
  have tk : L2N.Takes (cxOf (L2N.CX P w) P w K mg base ["makers", "words", "found", "k", "word", "others", "other"] "needed" (defScope Sneeded) f cdv A outer s H X') (fun cls d _ H => X' cls d H) := L2N.takes_of rfl rfl rfl rfl
  have hp : PassesOwn (model P w) (cxOf (L2N.CX P w) P w K mg base ["makers", "words", "found", "k", "word", "others", "other"] "needed" (defScope Sneeded) f cdv A outer s H X').A (cxOf (L2N.CX P w) P w K mg base ["makers", "words", "found", "k", "word", "others", "other"] "needed" (defScope Sneeded) f cdv A outer s H X').env (cxOf (L2N.CX P w) P w K mg base ["makers", "words", "found", "k", "word", "others", "other"] "needed" (defScope Sneeded) f cdv A outer s H X').xe := passes_of rfl
  have hu1 := hu1_of hr; have hu4 := hu4_of hr; have hu5 := hu5_of hr
  have nd := scneeded.nd
  exact (vs_cons (vs_let (i := 1) (v_call (vwords_of E) hr (by omega) tk (by rfl) (va_cons (v_name 0) va_nil)) nd)
      (vs_cons (vs_set (i := 2) (v_lst va_nil) nd)
      (vs_cons (vs_for hp rfl (vi_enum (by rfl) E.z_enumerate (v_name 1)) (vg_tup rfl (vgs_cons (vg_name (i := 3) nd) (vgs_cons (vg_name (i := 4) nd) vgs_nil))) (vs_cons (vs_letC (i := 5) (j := 6) rfl nd (vi_any (v_name 1)) (by first | rfl | decide +kernel) (fun _ _ _ _ _ => (vts_one (vt_cmp (neP_ok hu4) (pB_na _) (v_name 6) (v_name 4)))) (fun _ _ _ _ _ => (v_name 6)))
      (vs_one (vs_if (vt_w (vw_and (vt_cmp (nmP_ok hu5) nmP_na (v_name 4) (v_slice slD_ok slD_na (v_name 1) vo_none (vo_some (v_name 3)))) (vw_and1 (vt_cmp isNP_ok (pB_na _) (v_call (vrow_for E) hr (by omega) tk (by rfl) (va_cons (v_name 5) (va_cons (v_name 4) va_nil))) v_non)))) (vs_one (vs_expr (v_mut (fun ob h => (tyV_own ob).1 h) PySem.F.plainAttrs_list PySem.F.slot_list_append PySem.F.type_list_append appendM_ok (va_cons (v_name 3) va_nil)))) vs_nil))))
      (vs_one (vs_ret (v_name 2))))))
theorem sc_law_counts : FnScope ["words", "text", "found", "at", "ends", "steps", "word", "end"] ["words", "text"] (defScope S_law_counts) := ⟨rfl, rfl, rfl, by decide +kernel, rfl, by decide +kernel, by decide +kernel⟩
theorem v_law_counts (E : Top P w K mg base) : FnV P w K mg base 1 "_law_counts" 2 f_law_counts := by
  obtain ⟨f, fd, F, hm⟩ := E.d_law_counts
  refine fn_v (k := 0) F sc_law_counts rfl hm (F.binds (ps := ["words", "text"]) fun _ _ _ _ _ _ us hl => match us, hl with | [_, _], _ => rfl) fun cdv A outer s H X' L hr => ?_
  have tk : L2N.Takes (cxOf (L2N.CX P w) P w K mg base ["words", "text", "found", "at", "ends", "steps", "word", "end"] "_law_counts" (defScope S_law_counts) f cdv A outer s H X') (fun cls d _ H => X' cls d H) := L2N.takes_of rfl rfl rfl rfl
  have hp : PassesOwn (model P w) (cxOf (L2N.CX P w) P w K mg base ["words", "text", "found", "at", "ends", "steps", "word", "end"] "_law_counts" (defScope S_law_counts) f cdv A outer s H X').A (cxOf (L2N.CX P w) P w K mg base ["words", "text", "found", "at", "ends", "steps", "word", "end"] "_law_counts" (defScope S_law_counts) f cdv A outer s H X').env (cxOf (L2N.CX P w) P w K mg base ["words", "text", "found", "at", "ends", "steps", "word", "end"] "_law_counts" (defScope S_law_counts) f cdv A outer s H X').xe := passes_of rfl
  have hu1 := hu1_of hr; have hu4 := hu4_of hr; have hu5 := hu5_of hr
  have nd := sc_law_counts.nd
  exact (vs_cons (vs_set (i := 2) (v_lst (va_cons (v_tup (va_cons v_int (va_cons v_int va_nil))) va_nil)) nd)
      (vs_cons (vs_for hp rfl (vi_range2 (by rfl) E.z_range (va_cons v_int (va_cons (v_bin addP_ok addP_na (v_callB lenP_ok (pN_na _) (by rfl) E.z_len (by first | rfl | decide +kernel) (va_cons (v_name 1) va_nil)) v_int) va_nil))) (vg_name (i := 3) nd) (vs_cons (vs_letC (i := 4) (j := 6) rfl nd (vi_any (v_name 0)) (by first | rfl | decide +kernel) (fun _ _ _ _ _ => (vts_one (vt_val (v_mtS PySem.F.slot_str_endswith PySem.F.type_str_endswith endP_ok endP_na (v_slice slD_ok slD_na (v_name 1) vo_none (vo_some (v_name 3))) (va_cons (v_name 6) va_nil))))) (fun _ _ _ _ _ => (v_bin subP_ok (pV_na _) (v_name 3) (v_callB lenP_ok (pN_na _) (by rfl) E.z_len (by first | rfl | decide +kernel) (va_cons (v_name 6) va_nil)))))
      (vs_cons (vs_letC (i := 5) (j := 7) rfl nd (vi_any (v_name 4)) (by first | rfl | decide +kernel) (fun _ _ _ _ _ => (vts_one (vt_cmp noNP_ok (pB_na _) (v_ix (gixP_ok hu1) (pV_na _) (v_ix (gixP_ok hu1) (pV_na _) (v_name 2) (v_name 7)) v_int) v_non))) (fun _ _ _ _ _ => (v_bin addP_ok addP_na (v_ix (gixP_ok hu1) (pV_na _) (v_ix (gixP_ok hu1) (pV_na _) (v_name 2) (v_name 7)) v_int) v_int)))
      (vs_one (vs_expr (v_mut (fun ob h => (tyV_own ob).1 h) PySem.F.plainAttrs_list PySem.F.slot_list_append PySem.F.type_list_append appendM_ok (va_cons (v_tup (va_cons (v_if (vt_cmp (neP_ok hu4) (pB_na _) (v_name 5) (v_lst va_nil)) (v_callB (min1P_ok rfl hu4) (pN_na _) (by rfl) E.z_min (by first | rfl | decide +kernel) (va_cons (v_name 5) va_nil)) v_non) (va_cons (v_callB (sumP_ok rfl) (pN_na _) (by rfl) E.z_sum (by first | rfl | decide +kernel) (va_cons (v_comp (j := 7) rfl nd (vi_any (v_name 4)) (by first | rfl | decide +kernel) (fun _ _ _ _ _ => vts_nil) (fun _ _ _ _ _ => (v_ix (gixP_ok hu1) (pV_na _) (v_ix (gixP_ok hu1) (pV_na _) (v_name 2) (v_name 7)) v_int))) va_nil)) va_nil))) va_nil)))))))
      (vs_one (vs_ret (v_name 2)))))
theorem sc_law_can : FnScope ["words", "text"] ["words", "text"] (defScope S_law_can) := ⟨rfl, rfl, rfl, by decide +kernel, rfl, by decide +kernel, by decide +kernel⟩
theorem v_law_can (E : Top P w K mg base) : FnV P w K mg base 2 "_law_can" 2 f_law_can := by
  obtain ⟨f, fd, F, hm⟩ := E.d_law_can
  refine fn_v (k := 1) F sc_law_can rfl hm (F.binds (ps := ["words", "text"]) fun _ _ _ _ _ _ us hl => match us, hl with | [_, _], _ => rfl) fun cdv A outer s H X' L hr => ?_
  have tk : L2N.Takes (cxOf (L2N.CX P w) P w K mg base ["words", "text"] "_law_can" (defScope S_law_can) f cdv A outer s H X') (fun cls d _ H => X' cls d H) := L2N.takes_of rfl rfl rfl rfl
  have hp : PassesOwn (model P w) (cxOf (L2N.CX P w) P w K mg base ["words", "text"] "_law_can" (defScope S_law_can) f cdv A outer s H X').A (cxOf (L2N.CX P w) P w K mg base ["words", "text"] "_law_can" (defScope S_law_can) f cdv A outer s H X').env (cxOf (L2N.CX P w) P w K mg base ["words", "text"] "_law_can" (defScope S_law_can) f cdv A outer s H X').xe := passes_of rfl
  have hu1 := hu1_of hr; have hu4 := hu4_of hr; have hu5 := hu5_of hr
  have nd := sc_law_can.nd
  exact (vs_one (vs_ret (v_if (vt_cmp (neP_ok hu4) (pB_na _) (v_name 0) (v_lst va_nil)) (v_cmp noNP_ok (pB_na _) (v_ix (gixP_ok hu1) (pV_na _) (v_ix (gixP_ok hu1) (pV_na _) (v_call (v_law_counts E) hr (by omega) tk (by rfl) (va_cons (v_name 0) (va_cons (v_name 1) va_nil))) (v_un negP_ok negP_na v_int)) v_int) v_non) (v_cmp (eqP_ok hu4) (pB_na _) (v_name 1) v_str))))
theorem sc_law_needed : FnScope ["words", "found", "k", "others", "word"] ["words"] (defScope S_law_needed) := ⟨rfl, rfl, rfl, by decide +kernel, rfl, by decide +kernel, by decide +kernel⟩
theorem v_law_needed (E : Top P w K mg base) : FnV P w K mg base 3 "_law_needed" 1 f_law_needed := by
  obtain ⟨f, fd, F, hm⟩ := E.d_law_needed
  refine fn_v (k := 2) F sc_law_needed rfl hm (F.binds (ps := ["words"]) fun _ _ _ _ _ _ us hl => match us, hl with | [_], _ => rfl) fun cdv A outer s H X' L hr => ?_
  have tk : L2N.Takes (cxOf (L2N.CX P w) P w K mg base ["words", "found", "k", "others", "word"] "_law_needed" (defScope S_law_needed) f cdv A outer s H X') (fun cls d _ H => X' cls d H) := L2N.takes_of rfl rfl rfl rfl
  have hp : PassesOwn (model P w) (cxOf (L2N.CX P w) P w K mg base ["words", "found", "k", "others", "word"] "_law_needed" (defScope S_law_needed) f cdv A outer s H X').A (cxOf (L2N.CX P w) P w K mg base ["words", "found", "k", "others", "word"] "_law_needed" (defScope S_law_needed) f cdv A outer s H X').env (cxOf (L2N.CX P w) P w K mg base ["words", "found", "k", "others", "word"] "_law_needed" (defScope S_law_needed) f cdv A outer s H X').xe := passes_of rfl
  have hu1 := hu1_of hr; have hu4 := hu4_of hr; have hu5 := hu5_of hr
  have nd := sc_law_needed.nd
  exact (vs_cons (vs_set (i := 1) (v_lst va_nil) nd)
      (vs_cons (vs_for hp rfl (vi_range1 (by rfl) E.z_range (va_cons (v_callB lenP_ok (pN_na _) (by rfl) E.z_len (by first | rfl | decide +kernel) (va_cons (v_name 0) va_nil)) va_nil)) (vg_name (i := 2) nd) (vs_cons (vs_letC (i := 3) (j := 4) rfl nd (vi_any (v_name 0)) (by first | rfl | decide +kernel) (fun _ _ _ _ _ => (vts_one (vt_cmp (neP_ok hu4) (pB_na _) (v_name 4) (v_ix (gixP_ok hu1) (pV_na _) (v_name 0) (v_name 2))))) (fun _ _ _ _ _ => (v_name 4)))
      (vs_one (vs_if (vt_w (vw_and (vt_cmp (nmP_ok hu5) nmP_na (v_ix (gixP_ok hu1) (pV_na _) (v_name 0) (v_name 2)) (v_slice slD_ok slD_na (v_name 0) vo_none (vo_some (v_name 2)))) (vw_and1 (vt_not (vt_val (v_call (v_law_can E) hr (by omega) tk (by rfl) (va_cons (v_name 3) (va_cons (v_ix (gixP_ok hu1) (pV_na _) (v_name 0) (v_name 2)) va_nil)))))))) (vs_one (vs_expr (v_mut (fun ob h => (tyV_own ob).1 h) PySem.F.plainAttrs_list PySem.F.slot_list_append PySem.F.type_list_append appendM_ok (va_cons (v_name 2) va_nil)))) vs_nil))))
      (vs_one (vs_ret (v_name 1)))))
theorem sc_law_other : FnScope ["draws", "words", "least", "way", "some", "word", "at"] ["draws", "words", "least"] (defScope S_law_other) := ⟨rfl, rfl, rfl, by decide +kernel, rfl, by decide +kernel, by decide +kernel⟩
theorem v_law_other (E : Top P w K mg base) : FnV P w K mg base 4 "_law_other" 3 f_law_other := by
  obtain ⟨f, fd, F, hm⟩ := E.d_law_other
  refine fn_v (k := 3) F sc_law_other rfl hm (F.binds (ps := ["draws", "words", "least"]) fun _ _ _ _ _ _ us hl => match us, hl with | [_, _, _], _ => rfl) fun cdv A outer s H X' L hr => ?_
  have tk : L2N.Takes (cxOf (L2N.CX P w) P w K mg base ["draws", "words", "least", "way", "some", "word", "at"] "_law_other" (defScope S_law_other) f cdv A outer s H X') (fun cls d _ H => X' cls d H) := L2N.takes_of rfl rfl rfl rfl
  have hp : PassesOwn (model P w) (cxOf (L2N.CX P w) P w K mg base ["draws", "words", "least", "way", "some", "word", "at"] "_law_other" (defScope S_law_other) f cdv A outer s H X').A (cxOf (L2N.CX P w) P w K mg base ["draws", "words", "least", "way", "some", "word", "at"] "_law_other" (defScope S_law_other) f cdv A outer s H X').env (cxOf (L2N.CX P w) P w K mg base ["draws", "words", "least", "way", "some", "word", "at"] "_law_other" (defScope S_law_other) f cdv A outer s H X').xe := passes_of rfl
  have hu1 := hu1_of hr; have hu4 := hu4_of hr; have hu5 := hu5_of hr
  have nd := sc_law_other.nd
  exact (vs_cons (vs_let (i := 3) (v_call (v_law_draw E) hr (by omega) tk (by rfl) (va_cons (v_name 0) (va_cons v_int va_nil))) nd)
      (vs_cons (vs_set (i := 4) (v_lst va_nil) nd)
      (vs_cons (vs_for hp rfl (vi_any (v_name 2)) (vg_name (i := 5) nd) (vs_one (vs_expr (v_mut (fun ob h => (tyV_own ob).1 h) PySem.F.plainAttrs_list PySem.F.slot_list_insert PySem.F.type_list_insert insertM_ok (va_cons (v_call (v_law_draw E) hr (by omega) tk (by rfl) (va_cons (v_name 0) (va_cons (v_bin addP_ok addP_na (v_callB lenP_ok (pN_na _) (by rfl) E.z_len (by first | rfl | decide +kernel) (va_cons (v_name 4) va_nil)) v_int) va_nil))) (va_cons (v_name 5) va_nil))))))
      (vs_cons (vs_let (i := 6) (v_call (v_law_draw E) hr (by omega) tk (by rfl) (va_cons (v_name 0) (va_cons (v_callB lenP_ok (pN_na _) (by rfl) E.z_len (by first | rfl | decide +kernel) (va_cons (v_name 4) va_nil)) va_nil))) nd)
      (vs_cons (vs_if (vt_cmp (eqP_ok hu4) (pB_na _) (v_name 3) v_int) (vs_one (vs_set (i := 4) (v_bin addP_ok addP_na (v_name 4) (v_lst (va_cons (v_slice slD_ok slD_na (v_bin addP_ok addP_na (v_ix (gixP_ok hu1) (pV_na _) (v_name 4) (v_name 6)) (v_ix (gixP_ok hu1) (pV_na _) (v_name 4) (v_call (v_law_draw E) hr (by omega) tk (by rfl) (va_cons (v_name 0) (va_cons (v_callB lenP_ok (pN_na _) (by rfl) E.z_len (by first | rfl | decide +kernel) (va_cons (v_name 4) va_nil)) va_nil))))) vo_none (vo_some v_int)) (va_cons (v_ix (gixP_ok hu1) (pV_na _) (v_name 1) (v_un negP_ok negP_na v_int)) va_nil)))) nd)) vs_nil)
      (vs_cons (vs_if (vt_w (vw_and (vt_cmp (eqP_ok hu4) (pB_na _) (v_name 3) v_int) (vw_and1 (vt_cmp gtP_ok (pB_na _) (v_callB lenP_ok (pN_na _) (by rfl) E.z_len (by first | rfl | decide +kernel) (va_cons (v_name 4) va_nil)) v_int)))) (vs_one (vs_set (i := 4) (v_bin addP_ok addP_na (v_slice slD_ok slD_na (v_name 4) vo_none (vo_some (v_name 6))) (v_slice slD_ok slD_na (v_name 4) (vo_some (v_bin addP_ok addP_na (v_name 6) v_int)) vo_none)) nd)) vs_nil)
      (vs_cons (vs_if (vt_cmp (eqP_ok hu4) (pB_na _) (v_name 3) v_int) (vs_one (vs_sub (s := 4) (v_call (v_law_piece E) hr (by omega) tk (by rfl) (va_cons (v_name 0) (va_cons v_int va_nil))) (v_name 6) (setM_ok hu1))) vs_nil)
      (vs_cons (vs_if (vt_cmp (eqP_ok hu4) (pB_na _) (v_name 3) v_int) (vs_one (vs_set (i := 4) (v_call (v_law_makers E) hr (by omega) tk (by rfl) (va_cons (v_name 0) va_nil)) nd)) vs_nil)
      (vs_one (vs_ret (v_slice slD_ok slD_na (v_name 4) vo_none (vo_some v_int))))))))))))
theorem sc_law_times : FnScope ["one", "other", "found", "row", "column", "top"] ["one", "other"] (defScope S_law_times) := ⟨rfl, rfl, rfl, by decide +kernel, rfl, by decide +kernel, by decide +kernel⟩
theorem v_law_times (E : Top P w K mg base) : FnV P w K mg base 1 "_law_times" 2 f_law_times := by
  obtain ⟨f, fd, F, hm⟩ := E.d_law_times
  refine fn_v (k := 0) F sc_law_times rfl hm (F.binds (ps := ["one", "other"]) fun _ _ _ _ _ _ us hl => match us, hl with | [_, _], _ => rfl) fun cdv A outer s H X' L hr => ?_
  have tk : L2N.Takes (cxOf (L2N.CX P w) P w K mg base ["one", "other", "found", "row", "column", "top"] "_law_times" (defScope S_law_times) f cdv A outer s H X') (fun cls d _ H => X' cls d H) := L2N.takes_of rfl rfl rfl rfl
  have hp : PassesOwn (model P w) (cxOf (L2N.CX P w) P w K mg base ["one", "other", "found", "row", "column", "top"] "_law_times" (defScope S_law_times) f cdv A outer s H X').A (cxOf (L2N.CX P w) P w K mg base ["one", "other", "found", "row", "column", "top"] "_law_times" (defScope S_law_times) f cdv A outer s H X').env (cxOf (L2N.CX P w) P w K mg base ["one", "other", "found", "row", "column", "top"] "_law_times" (defScope S_law_times) f cdv A outer s H X').xe := passes_of rfl
  have hu1 := hu1_of hr; have hu4 := hu4_of hr; have hu5 := hu5_of hr
  have nd := sc_law_times.nd
  exact (vs_cons (vs_set (i := 2) (v_lst va_nil) nd)
      (vs_cons (vs_for hp rfl (vi_any (v_tup (va_cons v_int (va_cons v_int va_nil)))) (vg_name (i := 3) nd) (vs_one (vs_for hp rfl (vi_range1 (by rfl) E.z_range (va_cons v_int va_nil)) (vg_name (i := 4) nd) (vs_cons (vs_let (i := 5) (v_bin mulP_ok mulP_na (v_ix (gixP_ok hu1) (pV_na _) (v_name 0) (v_name 3)) (v_ix (gixP_ok hu1) (pV_na _) (v_name 1) (v_name 4))) nd)
      (vs_one (vs_expr (v_mut (fun ob h => (tyV_own ob).1 h) PySem.F.plainAttrs_list PySem.F.slot_list_append PySem.F.type_list_append appendM_ok (va_cons (v_bin addP_ok addP_na (v_name 5) (v_bin mulP_ok mulP_na (v_ix (gixP_ok hu1) (pV_na _) (v_name 0) (v_bin addP_ok addP_na (v_name 3) v_int)) (v_ix (gixP_ok hu1) (pV_na _) (v_name 1) (v_bin addP_ok addP_na v_int (v_name 4))))) va_nil))))))))
      (vs_one (vs_ret (v_callTy tupleP_ok tupleP_na (by rfl) E.z_tuple (by first | rfl | decide +kernel) (va_cons (v_name 2) va_nil))))))
theorem sc_law_made : FnScope ["tables", "found", "table"] ["tables"] (defScope S_law_made) := ⟨rfl, rfl, rfl, by decide +kernel, rfl, by decide +kernel, by decide +kernel⟩
theorem v_law_made (E : Top P w K mg base) : FnV P w K mg base 2 "_law_made" 1 f_law_made := by
  obtain ⟨f, fd, F, hm⟩ := E.d_law_made
  refine fn_v (k := 1) F sc_law_made rfl hm (F.binds (ps := ["tables"]) fun _ _ _ _ _ _ us hl => match us, hl with | [_], _ => rfl) fun cdv A outer s H X' L hr => ?_
  have tk : L2N.Takes (cxOf (L2N.CX P w) P w K mg base ["tables", "found", "table"] "_law_made" (defScope S_law_made) f cdv A outer s H X') (fun cls d _ H => X' cls d H) := L2N.takes_of rfl rfl rfl rfl
  have hp : PassesOwn (model P w) (cxOf (L2N.CX P w) P w K mg base ["tables", "found", "table"] "_law_made" (defScope S_law_made) f cdv A outer s H X').A (cxOf (L2N.CX P w) P w K mg base ["tables", "found", "table"] "_law_made" (defScope S_law_made) f cdv A outer s H X').env (cxOf (L2N.CX P w) P w K mg base ["tables", "found", "table"] "_law_made" (defScope S_law_made) f cdv A outer s H X').xe := passes_of rfl
  have hu1 := hu1_of hr; have hu4 := hu4_of hr; have hu5 := hu5_of hr
  have nd := sc_law_made.nd
  exact (vs_cons (vs_let (i := 1) (v_tup (va_cons v_int (va_cons v_int (va_cons v_int (va_cons v_int va_nil))))) nd)
      (vs_cons (vs_for hp rfl (vi_any (v_name 0)) (vg_name (i := 2) nd) (vs_one (vs_let (i := 1) (v_call (v_law_times E) hr (by omega) tk (by rfl) (va_cons (v_name 1) (va_cons (v_name 2) va_nil))) nd)))
      (vs_one (vs_ret (v_name 1)))))
theorem sc_law_of_letters : FnScope ["word", "letters", "letter"] ["word"] (defScope S_law_of_letters) := ⟨rfl, rfl, rfl, by decide +kernel, rfl, by decide +kernel, by decide +kernel⟩
theorem v_law_of_letters (E : Top P w K mg base) : FnV P w K mg base 3 "_law_of_letters" 1 f_law_of_letters := by
  obtain ⟨f, fd, F, hm⟩ := E.d_law_of_letters
  refine fn_v (k := 2) F sc_law_of_letters rfl hm (F.binds (ps := ["word"]) fun _ _ _ _ _ _ us hl => match us, hl with | [_], _ => rfl) fun cdv A outer s H X' L hr => ?_
  have tk : L2N.Takes (cxOf (L2N.CX P w) P w K mg base ["word", "letters", "letter"] "_law_of_letters" (defScope S_law_of_letters) f cdv A outer s H X') (fun cls d _ H => X' cls d H) := L2N.takes_of rfl rfl rfl rfl
  have hp : PassesOwn (model P w) (cxOf (L2N.CX P w) P w K mg base ["word", "letters", "letter"] "_law_of_letters" (defScope S_law_of_letters) f cdv A outer s H X').A (cxOf (L2N.CX P w) P w K mg base ["word", "letters", "letter"] "_law_of_letters" (defScope S_law_of_letters) f cdv A outer s H X').env (cxOf (L2N.CX P w) P w K mg base ["word", "letters", "letter"] "_law_of_letters" (defScope S_law_of_letters) f cdv A outer s H X').xe := passes_of rfl
  have hu1 := hu1_of hr; have hu4 := hu4_of hr; have hu5 := hu5_of hr
  have nd := sc_law_of_letters.nd
  exact (vs_cons (vs_set (i := 1) (v_disp (vps_cons v_str (v_tup (va_cons v_int (va_cons v_int (va_cons v_int (va_cons v_int va_nil))))) (vps_cons v_str (v_tup (va_cons v_int (va_cons v_int (va_cons v_int (va_cons v_int va_nil))))) (vps_cons v_str (v_tup (va_cons v_int (va_cons v_int (va_cons v_int (va_cons v_int va_nil))))) (vps_cons v_str (v_tup (va_cons v_int (va_cons v_int (va_cons v_int (va_cons v_int va_nil))))) vps_nil))))) nd)
      (vs_cons (vs_expr (v_mut (fun ob h => (tyV_own ob).2 h) PySem.F.plainAttrs_dict PySem.F.slot_dict_update PySem.F.type_dict_update updateM_ok (va_cons (v_disp (vps_cons v_str (v_tup (va_cons v_int (va_cons (v_un negP_ok negP_na v_int) (va_cons v_int (va_cons v_int va_nil))))) (vps_cons v_str (v_tup (va_cons v_int (va_cons v_int (va_cons (v_un negP_ok negP_na v_int) (va_cons v_int va_nil))))) vps_nil))) va_nil)))
      (vs_one (vs_ret (v_call (v_law_made E) hr (by omega) tk (by rfl) (va_cons (v_comp (j := 2) rfl nd (vi_any (v_name 0)) (by first | rfl | decide +kernel) (fun _ _ _ _ _ => vts_nil) (fun _ _ _ _ _ => (v_ix (gixP_ok hu1) (pV_na _) (v_name 1) (v_name 2)))) va_nil))))))
theorem scsame : FnScope ["makers", "others", "words", "more", "word"] ["makers", "others"] (defScope Ssame) := ⟨rfl, rfl, rfl, by decide +kernel, rfl, by decide +kernel, by decide +kernel⟩
theorem vsame (E : Top P w K mg base) : FnV P w K mg base 7 "same" 2 fsame := by
  obtain ⟨f, fd, F, hm⟩ := E.dsame
  refine fn_v (k := 6) F scsame rfl hm (F.binds (ps := ["makers", "others"]) fun _ _ _ _ _ _ us hl => match us, hl with | [_, _], _ => rfl) fun cdv A outer s H X' L hr => ?_
  have tk : L2N.Takes (cxOf (L2N.CX P w) P w K mg base ["makers", "others", "words", "more", "word"] "same" (defScope Ssame) f cdv A outer s H X') (fun cls d _ H => X' cls d H) := L2N.takes_of rfl rfl rfl rfl
  have hp : PassesOwn (model P w) (cxOf (L2N.CX P w) P w K mg base ["makers", "others", "words", "more", "word"] "same" (defScope Ssame) f cdv A outer s H X').A (cxOf (L2N.CX P w) P w K mg base ["makers", "others", "words", "more", "word"] "same" (defScope Ssame) f cdv A outer s H X').env (cxOf (L2N.CX P w) P w K mg base ["makers", "others", "words", "more", "word"] "same" (defScope Ssame) f cdv A outer s H X').xe := passes_of rfl
  have hu1 := hu1_of hr; have hu4 := hu4_of hr; have hu5 := hu5_of hr
  have nd := scsame.nd
  exact (vs_cons (vs_let (i := 2) (v_call (vwords_of E) hr (by omega) tk (by rfl) (va_cons (v_name 0) va_nil)) nd)
      (vs_cons (vs_let (i := 3) (v_call (vwords_of E) hr (by omega) tk (by rfl) (va_cons (v_name 1) va_nil)) nd)
      (vs_cons (vs_if (vt_cmp (neP_ok hu4) (pB_na _) (v_comp (j := 4) rfl nd (vi_any (v_name 2)) (by first | rfl | decide +kernel) (fun _ _ _ _ _ => (vts_one (vt_cmp isNP_ok (pB_na _) (v_call (vrow_for E) hr (by omega) takesN0 (by rfl) (va_cons (v_name 3) (va_cons (v_name 4) va_nil))) v_non))) (fun _ _ _ _ _ => (v_name 4))) (v_lst va_nil)) (vs_one (vs_ret v_bl)) vs_nil)
      (vs_one (vs_ret (v_cmp (eqP_ok hu4) (pB_na _) (v_comp (j := 4) rfl nd (vi_any (v_name 3)) (by first | rfl | decide +kernel) (fun _ _ _ _ _ => (vts_one (vt_cmp isNP_ok (pB_na _) (v_call (vrow_for E) hr (by omega) takesN0 (by rfl) (va_cons (v_name 2) (va_cons (v_name 4) va_nil))) v_non))) (fun _ _ _ _ _ => (v_name 4))) (v_lst va_nil)))))))
theorem sc_law_whole : FnScope ["found"] ["found"] (defScope S_law_whole) := ⟨rfl, rfl, rfl, by decide +kernel, rfl, by decide +kernel, by decide +kernel⟩
theorem v_law_whole (E : Top P w K mg base) : FnV P w K mg base 1 "_law_whole" 1 f_law_whole := by
  obtain ⟨f, fd, F, hm⟩ := E.d_law_whole
  refine fn_v (k := 0) F sc_law_whole rfl hm (F.binds (ps := ["found"]) fun _ _ _ _ _ _ us hl => match us, hl with | [_], _ => rfl) fun cdv A outer s H X' L hr => ?_
  have tk : L2N.Takes (cxOf (L2N.CX P w) P w K mg base ["found"] "_law_whole" (defScope S_law_whole) f cdv A outer s H X') (fun cls d _ H => X' cls d H) := L2N.takes_of rfl rfl rfl rfl
  have hp : PassesOwn (model P w) (cxOf (L2N.CX P w) P w K mg base ["found"] "_law_whole" (defScope S_law_whole) f cdv A outer s H X').A (cxOf (L2N.CX P w) P w K mg base ["found"] "_law_whole" (defScope S_law_whole) f cdv A outer s H X').env (cxOf (L2N.CX P w) P w K mg base ["found"] "_law_whole" (defScope S_law_whole) f cdv A outer s H X').xe := passes_of rfl
  have hu1 := hu1_of hr; have hu4 := hu4_of hr; have hu5 := hu5_of hr
  have nd := sc_law_whole.nd
  exact (vs_one (vs_ret (v_and (v_isT .int (v_name 0) (by rfl) E.z_isinstance (by rfl) E.z_int (by first | rfl | decide +kernel)) (v_one (v_not (v_isT .bool (v_name 0) (by rfl) E.z_isinstance (by rfl) E.z_bool (by first | rfl | decide +kernel)))))))
theorem sclaw : FnScope ["script", "k", "draws", "words", "makers", "handed", "found", "due", "least", "small", "other", "alike", "more", "told", "word", "j"] ["script"] (defScope Slaw) := ⟨rfl, rfl, rfl, by decide +kernel, rfl, by decide +kernel, by decide +kernel⟩
theorem ok_law (E : Top P w K mg base) {f : Addr} {fd : FuncData} (F : Fun K "law" "law" Slaw f fd) : FnOk P w K mg base (L2N.CX P w) 8 f fd ["script"] (spV K mg 1 flaw) := by
  refine fn_ok (k := 7) F sclaw rfl fun cdv A outer s H X' L hr => ?_
  have tk : L2N.Takes (cxOf (L2N.CX P w) P w K mg base ["script", "k", "draws", "words", "makers", "handed", "found", "due", "least", "small", "other", "alike", "more", "told", "word", "j"] "law" (defScope Slaw) f cdv A outer s H X') (fun cls d _ H => X' cls d H) := L2N.takes_of rfl rfl rfl rfl
  have hp : PassesOwn (model P w) (cxOf (L2N.CX P w) P w K mg base ["script", "k", "draws", "words", "makers", "handed", "found", "due", "least", "small", "other", "alike", "more", "told", "word", "j"] "law" (defScope Slaw) f cdv A outer s H X').A (cxOf (L2N.CX P w) P w K mg base ["script", "k", "draws", "words", "makers", "handed", "found", "due", "least", "small", "other", "alike", "more", "told", "word", "j"] "law" (defScope Slaw) f cdv A outer s H X').env (cxOf (L2N.CX P w) P w K mg base ["script", "k", "draws", "words", "makers", "handed", "found", "due", "least", "small", "other", "alike", "more", "told", "word", "j"] "law" (defScope Slaw) f cdv A outer s H X').xe := passes_of rfl
  have hu1 := hu1_of hr; have hu4 := hu4_of hr; have hu5 := hu5_of hr
  have nd := sclaw.nd
  exact (vs_cons (vs_for hp rfl (vi_range1 (by rfl) E.z_range (va_cons (v_callB (max2P_ok rfl) (pN_na _) (by rfl) E.z_max (by first | rfl | decide +kernel) (va_cons v_int (va_cons (v_callB (min2P_ok rfl) (pN_na _) (by rfl) E.z_min (by first | rfl | decide +kernel) (va_cons v_int (va_cons (v_callB lenP_ok (pN_na _) (by rfl) E.z_len (by first | rfl | decide +kernel) (va_cons (v_name 0) va_nil)) va_nil))) va_nil))) va_nil)) (vg_name (i := 1) nd) (vs_cons (vs_set (i := 2) (v_call (v_law_draws E) hr (by omega) tk (by rfl) (va_cons (v_name 0) (va_cons (v_name 1) va_nil))) nd)
      (vs_cons (vs_let (i := 3) (v_call (v_law_makers E) hr (by omega) tk (by rfl) (va_cons (v_name 2) va_nil)) nd)
      (vs_cons (vs_let (i := 4) (v_comp (j := 14) rfl nd (vi_any (v_name 3)) (by first | rfl | decide +kernel) (fun _ _ _ _ _ => vts_nil) (fun _ _ _ _ _ => (v_call (v_law_of_letters E) hr (by omega) takesN0 (by rfl) (va_cons (v_name 14) va_nil)))) nd)
      (vs_cons (vs_let (i := 5) (v_callTy listP_ok listP_na (by rfl) E.z_list (by first | rfl | decide +kernel) (va_cons (v_name 4) va_nil)) nd)
      (vs_cons (vs_set (i := 6) (v_call (vneeded E) hr (by omega) tk (by rfl) (va_cons (v_name 5) va_nil)) nd)
      (vs_cons (vs_let (i := 7) (v_call (v_law_needed E) hr (by omega) tk (by rfl) (va_cons (v_name 3) va_nil)) nd)
      (vs_cons (vs_if (vt_w (vw_or (vt_not (vt_val (v_isT .list (v_name 6) (by rfl) E.z_isinstance (by rfl) E.z_list (by first | rfl | decide +kernel)))) (vw_or (vt_cmp (neP_ok hu4) (pB_na _) (v_name 6) (v_name 7)) (vw_or (vt_cmp (memP_ok hu5) memP_na v_bl (v_compO (s := 6) (j := 15) rfl nd (by first | rfl | decide +kernel) (fun _ _ _ _ _ => vts_nil) (fun _ _ _ _ _ => (v_call (v_law_whole E) hr (by omega) takesN0 (by rfl) (va_cons (v_name 15) va_nil))))) (vw_or1 (vt_cmp (neP_ok hu4) (pB_na _) (v_name 5) (v_name 4))))))) (vs_one (vs_ret v_bl)) vs_nil)
      (vs_cons (vs_letC (i := 8) (j := 15) rfl nd (vi_any (v_name 7)) (by first | rfl | decide +kernel) (fun _ _ _ _ _ => vts_nil) (fun _ _ _ _ _ => (v_ix (gixP_ok hu1) (pV_na _) (v_name 3) (v_name 15))))
      (vs_cons (vs_letC (i := 9) (j := 15) rfl nd (vi_any (v_name 7)) (by first | rfl | decide +kernel) (fun _ _ _ _ _ => vts_nil) (fun _ _ _ _ _ => (v_ix (gixP_ok hu1) (pV_na _) (v_name 4) (v_name 15))))
      (vs_cons (vs_if (vt_cmp noBP_ok (pB_na _) (v_call (vsame E) hr (by omega) tk (by rfl) (va_cons (v_name 5) (va_cons (v_name 9) va_nil))) v_bl) (vs_one (vs_ret v_bl)) vs_nil)
      (vs_cons (vs_if (vt_w (vw_and (vt_cmp gtP_ok (pB_na _) (v_callB lenP_ok (pN_na _) (by rfl) E.z_len (by first | rfl | decide +kernel) (va_cons (v_name 9) va_nil)) v_int) (vw_and1 (vt_cmp noBP_ok (pB_na _) (v_call (vsame E) hr (by omega) tk (by rfl) (va_cons (v_slice slD_ok slD_na (v_name 9) (vo_some v_int) vo_none) (va_cons (v_name 5) va_nil))) v_bl)))) (vs_one (vs_ret v_bl)) vs_nil)
      (vs_cons (vs_let (i := 10) (v_call (v_law_other E) hr (by omega) tk (by rfl) (va_cons (v_name 2) (va_cons (v_name 3) (va_cons (v_name 8) va_nil)))) nd)
      (vs_cons (vs_let (i := 11) (v_cmp (eqP_ok hu4) (pB_na _) (v_comp (j := 14) rfl nd (vi_any (v_name 3)) (by first | rfl | decide +kernel) (fun _ _ _ _ _ => (vts_one (vt_not (vt_val (v_call (v_law_can E) hr (by omega) takesN0 (by rfl) (va_cons (v_name 10) (va_cons (v_name 14) va_nil))))))) (fun _ _ _ _ _ => (v_name 14))) (v_lst va_nil)) nd)
      (vs_cons (vs_let (i := 11) (v_and (v_name 11) (v_one (v_cmp (eqP_ok hu4) (pB_na _) (v_comp (j := 14) rfl nd (vi_any (v_name 10)) (by first | rfl | decide +kernel) (fun _ _ _ _ _ => (vts_one (vt_not (vt_val (v_call (v_law_can E) hr (by omega) takesN0 (by rfl) (va_cons (v_name 3) (va_cons (v_name 14) va_nil))))))) (fun _ _ _ _ _ => (v_name 14))) (v_lst va_nil)))) nd)
      (vs_cons (vs_letC (i := 12) (j := 14) rfl nd (vi_any (v_name 10)) (by first | rfl | decide +kernel) (fun _ _ _ _ _ => vts_nil) (fun _ _ _ _ _ => (v_call (v_law_of_letters E) hr (by omega) takesN0 (by rfl) (va_cons (v_name 14) va_nil))))
      (vs_cons (vs_for hp rfl (vi_any (v_lst (va_cons (v_call (vsame E) hr (by omega) tk (by rfl) (va_cons (v_name 5) (va_cons (v_callTy listP_ok listP_na (by rfl) E.z_list (by first | rfl | decide +kernel) (va_cons (v_name 12) va_nil)) va_nil))) (va_cons (v_call (vsame E) hr (by omega) tk (by rfl) (va_cons (v_callTy listP_ok listP_na (by rfl) E.z_list (by first | rfl | decide +kernel) (va_cons (v_name 12) va_nil)) (va_cons (v_name 5) va_nil))) va_nil)))) (vg_name (i := 13) nd) (vs_one (vs_if (vt_w (vw_or (vt_not (vt_val (v_isT .bool (v_name 13) (by rfl) E.z_isinstance (by rfl) E.z_bool (by first | rfl | decide +kernel)))) (vw_or1 (vt_cmp (neP_ok hu4) (pB_na _) (v_name 13) (v_name 11))))) (vs_one (vs_ret v_bl)) vs_nil)))
      (vs_cons (vs_expr (v_mut (fun ob h => (tyV_own ob).1 h) PySem.F.plainAttrs_list PySem.F.slot_list_append PySem.F.type_list_append appendM_ok (va_cons v_int va_nil)))
      (vs_one (vs_if (vt_cmp (neP_ok hu4) (pB_na _) (v_call (vneeded E) hr (by omega) tk (by rfl) (va_cons (v_name 5) va_nil)) (v_name 7)) (vs_one (vs_ret v_bl)) vs_nil))))))))))))))))))))
      (vs_one (vs_ret v_bl)))
end
end QL

end
section
namespace QL
open PySem PySem.Spec L2 QW
local macro_rules | `(tactic| walk_at "EV") => `(tactic| simp only [ws_raise, ws_try, ws_tryR, we_mtS, as_e, as_str, D.asI, wo_none, wo_some, we_slice, wp_exc, ws_seq, ws_if, ws_nil, ws_let, ws_set, ws_ret, ws_asg, ws_par, par_2, next_nx, ws_expr, ws_sub, ws_for, then_nx, then_rt, let_sh, let_ow, set_sh, set_ow, store_un, store_sh, store_ow, ret_sh, ret_ow, ret_al, back_sh, back_ow, own_ow, run_nx, run_rt, wb_val, bl_is, wb_and, wb_or, wb_not, ds_e, ds_l, ds_r, ds_lr, ds_u, ds_v, ds_U, ds_V, ds_uv, ds_uvUV, ds_mi, ds_n0, ds_n1, ds_co, ds_sl, ds_bl, ds_rr, ds_rrr, ds_ll, we_bin, we_chain, chain_b, we_un, we_if, we_and, we_or, we_not, we_name, slot_sh, slot_ow, we_share, share_sh, share_ow, we_c, we_tup, we_lst, we_callB, we_isT, we_call, we_mut, wl_nil, wl_cons, wp_bind, wp_ok, wp_opt, at_some, at_map, List.map_cons, List.map_nil, Ar.sl, List.length_cons, List.length_nil, List.cons_append, List.nil_append, List.getElem?_cons_zero, List.getElem?_cons_succ, List.set_cons_zero, List.set_cons_succ, Res.get, Res.own, owns, gets, argsOf, lentS, backS, Ar.res, outsOf, Option.map_some, Option.bind_some, Bool.true_eq_false, Bool.false_eq_true, if_true, if_false, g_lst, g_tup, g_clst, g_ctup, s_lst, p_add, p_sub, p_mul, p_mod, p_fdiv, p_pow, p_neg, p_lt, p_le, p_gt, p_ge, p_eqI, p_neI, p_mulT, p_mulL, p_addT, p_addL, p_slT, p_slL, p_start, p_start3, p_end, p_lenT, p_abs, p_ii_max, p_ii_min, Res.norm, ix_0, ix_1, ix_2, ix_3, n3_0, n3_1, n3_2, List.replicate, decide_eq_true_eq, and_true, true_and, List.nodup_nil, List.nodup_cons, List.not_mem_nil, not_false_eq_true, gSet, fr_un, fr_sh, fr_ow, eq_self, gTupD, gsCons, gsNil, lp_nil, lp_cons, loop_nx, loop_rt, wi_any, wk_l, wk_t, wk_c, wi_r1, wi_r2, asI1, asI2, rng_2, rng_4, isL, isDi, ap_M, tu_l, tu_t, ld_l, ld_t, len_l, len_t, len_c, len_ct, int_b, int_i, wb_yes, we_comp, lc_nil, isTn, forD_sh, ws_forD, we_compD, compD_sh, ko_k, ko_t, we_dget, we_dget2, is_dk, is_dt, wi_enu, as_L, Bool.not_true, Bool.not_false, Bool.and_self, Int.reduceAdd, Int.reduceSub, Int.reduceMul, Int.reduceNeg, Int.reducePow, Int.reduceToNat, Nat.reduceLT, Int.reduceLT, Int.reduceLE, Nat.reduceAdd, Nat.reduceSub, Nat.reduceLeDiff, Nat.reduceEqDiff])
local macro_rules | `(tactic| wide_open with [$xs,*]) => `(tactic| simp only [ws_raise, ws_try, ws_tryR, we_mtS, as_e, as_str, D.asI, wo_none, wo_some, we_slice, wp_exc, ws_seq, ws_if, ws_nil, ws_let, ws_set, ws_ret, ws_asg, ws_par, par_2, next_nx, ws_expr, ws_sub, ws_for, then_nx, then_rt, let_sh, let_ow, set_sh, set_ow, store_un, store_sh, store_ow, ret_sh, ret_ow, ret_al, back_sh, back_ow, own_ow, run_nx, run_rt, wb_val, bl_is, wb_and, wb_or, wb_not, ds_e, ds_l, ds_r, ds_lr, ds_u, ds_v, ds_U, ds_V, ds_uv, ds_uvUV, ds_mi, ds_n0, ds_n1, ds_co, ds_sl, ds_bl, ds_rr, ds_rrr, ds_ll, we_bin, we_chain, chain_b, we_un, we_if, we_and, we_or, we_not, we_name, slot_sh, slot_ow, we_share, share_sh, share_ow, we_c, we_tup, we_lst, we_callB, we_isT, we_call, we_mut, wl_nil, wl_cons, wp_bind, wp_ok, wp_opt, at_some, at_map, List.map_cons, List.map_nil, Ar.sl, List.length_cons, List.length_nil, List.cons_append, List.nil_append, List.getElem?_cons_zero, List.getElem?_cons_succ, List.set_cons_zero, List.set_cons_succ, Res.get, Res.own, owns, gets, argsOf, lentS, backS, Ar.res, outsOf, Option.map_some, Option.bind_some, Bool.true_eq_false, Bool.false_eq_true, if_true, if_false, g_lst, g_tup, g_clst, g_ctup, s_lst, p_add, p_sub, p_mul, p_mod, p_fdiv, p_pow, p_neg, p_lt, p_le, p_gt, p_ge, p_eqI, p_neI, p_mulT, p_mulL, p_addT, p_addL, p_slT, p_slL, p_start, p_start3, p_end, p_lenT, p_abs, p_ii_max, p_ii_min, Res.norm, ix_0, ix_1, ix_2, ix_3, n3_0, n3_1, n3_2, List.replicate, decide_eq_true_eq, and_true, true_and, List.nodup_nil, List.nodup_cons, List.not_mem_nil, not_false_eq_true, gSet, fr_un, fr_sh, fr_ow, eq_self, gTupD, gsCons, gsNil, lp_nil, lp_cons, loop_nx, loop_rt, wi_any, wk_l, wk_t, wk_c, wi_r1, wi_r2, asI1, asI2, rng_2, rng_4, isL, isDi, ap_M, tu_l, tu_t, ld_l, ld_t, len_l, len_t, len_c, len_ct, int_b, int_i, wb_yes, we_comp, lc_nil, isTn, forD_sh, ws_forD, we_compD, compD_sh, ko_k, ko_t, we_dget, we_dget2, is_dk, is_dt, wi_enu, as_L, Bool.not_true, Bool.not_false, Bool.and_self, Int.reduceAdd, Int.reduceSub, Int.reduceMul, Int.reduceNeg, Int.reducePow, Int.reduceToNat, Nat.reduceLT, Int.reduceLT, Int.reduceLE, Nat.reduceAdd, Nat.reduceSub, Nat.reduceLeDiff, Nat.reduceEqDiff, $[$xs:term],*])
theorem draw_ok {a b m n : Int} (g : Good a b m) (h0 : 0 < n) (h1 : n < 2 ^ 64) : Wp N0 (f_law_draw [.ow (dr a b m), .sh (.int n)]) fun p => ∃ r a' b', 0 ≤ r ∧ r < n ∧ Good a' b' m ∧ p = (.sh (.int r), [.ow (dr a' b' m), .sh (.int n)]) := by
  obtain ⟨ga, ga1, gb, gb1, gm, gm1⟩ := g
  unfold f_law_draw c_law_draw
  rw [wp_run]
  walk_at "EV"
  split
  · rename_i h
    refine ⟨h0, ⟨h0, lg1 (n := 64) (by omega) (by decide) (by decide)⟩, ?_⟩
    exact ⟨a % n, a / n, b, Int.emod_nonneg _ (by omega), Int.emod_lt_of_pos _ h0, ⟨Int.ediv_nonneg ga (by omega), Int.lt_of_le_of_lt (Int.ediv_le_self _ ga) ga1, gb, gb1, gm, gm1⟩, rfl⟩
  · rename_i h
    have e0 := Int.emod_nonneg (b * 69621) (show m ≠ 0 by omega)
    have e1 := Int.emod_lt_of_pos (b * 69621) gm
    generalize b * 69621 % m = b' at e0 e1
    refine ⟨lg (n := 33) (k := 33) (by omega) (by decide) (by decide) (by decide) (by decide), gm, by decide, lg (n := 33) (k := 33) (by omega) (by omega) (by decide) (by decide) (by decide), by decide, h0, ?_⟩
    exact ⟨_, a, b' + 1, Int.emod_nonneg _ (by omega), Int.emod_lt_of_pos _ h0, ⟨ga, ga1, by omega, by omega, gm, gm1⟩, rfl⟩
/-- tables -/
structure T4 where
  (a b c d : Int)
abbrev dT (x : T4) : D := .tup [.int x.a, .int x.b, .int x.c, .int x.d]
def mulT (x y : T4) : T4 := ⟨x.a * y.a + x.b * y.c, x.a * y.b + x.b * y.d, x.c * y.a + x.d * y.c, x.c * y.b + x.d * y.d⟩
structure Bd (n : Nat) (x : T4) : Prop where
  a : x.a.natAbs < 2 ^ n
  b : x.b.natAbs < 2 ^ n
  c : x.c.natAbs < 2 ^ n
  d : x.d.natAbs < 2 ^ n
/-- a table as a value, made or written -/
def dC : Bool → T4 → D
  | true, x => .ctup [.int x.a, .int x.b, .int x.c, .int x.d]
  | false, x => dT x
theorem product_ok {b : Bool} {x y : T4} {n k : Nat} (hx : Bd n x) (hy : Bd k y) (h : n + k ≤ 1000000) (h0 : 0 < n) (h1 : 0 < k) : Wp N0 (fproduct [.sh (dC b x), .sh (dT y)]) fun p => p = (.sh (dT (mulT x y)), [.sh (dC b x), .sh (dT y)]) := by
  unfold fproduct cproduct
  rw [wp_run]
  cases b
  all_goals
    unfold dC
    walk_at "EV"
    exact ⟨lg hx.a hy.a h h0 h1, lg hx.b hy.c h h0 h1, lg hx.a hy.b h h0 h1, lg hx.b hy.d h h0 h1, lg hx.c hy.a h h0 h1, lg hx.d hy.c h h0 h1, lg hx.c hy.b h h0 h1, lg hx.d hy.d h h0 h1, rfl⟩
theorem times_ok {b : Bool} {x y : T4} {n k : Nat} (hx : Bd n x) (hy : Bd k y) (h : n + k ≤ 1000000) (h0 : 0 < n) (h1 : 0 < k) : Wp N0 (f_law_times [.sh (dC b x), .sh (dT y)]) fun p => p = (.sh (dT (mulT x y)), [.sh (dC b x), .sh (dT y)]) := by
  unfold f_law_times c_law_times
  rw [wp_run]
  cases b
  all_goals
    unfold dC
    walk_at "EV"
    exact ⟨lg hx.a hy.a h h0 h1, lg hx.b hy.c h h0 h1, lg hx.a hy.b h h0 h1, lg hx.b hy.d h h0 h1, lg hx.c hy.a h h0 h1, lg hx.d hy.c h h0 h1, lg hx.c hy.b h h0 h1, lg hx.d hy.d h h0 h1, rfl⟩
theorem bd_sum {a b c d : Int} {n k : Nat} (ha : a.natAbs < 2 ^ n) (hb : b.natAbs < 2 ^ k) (hc : c.natAbs < 2 ^ n) (hd : d.natAbs < 2 ^ k) : (a * b + c * d).natAbs < 2 ^ (n + k + 1) := by
  have h1 : (a * b).natAbs < 2 ^ (n + k) := by
    rw [Int.natAbs_mul, Nat.pow_add]
    exact Nat.mul_lt_mul'' ha hb
  have h2 : (c * d).natAbs < 2 ^ (n + k) := by
    rw [Int.natAbs_mul, Nat.pow_add]
    exact Nat.mul_lt_mul'' hc hd
  have h3 := Int.natAbs_add_le (a * b) (c * d)
  rw [Nat.pow_succ]
  omega
theorem Bd.mul {x y : T4} {n k : Nat} (hx : Bd n x) (hy : Bd k y) : Bd (n + k + 1) (mulT x y) :=
  ⟨bd_sum hx.a hy.a hx.b hy.c, bd_sum hx.a hy.b hx.b hy.d, bd_sum hx.c hy.a hx.d hy.c, bd_sum hx.c hy.b hx.d hy.d⟩
theorem fold_loop {F : Fn} (hF : ∀ {b : Bool} {x y : T4} {n k : Nat}, Bd n x → Bd k y → n + k ≤ 1000000 → 0 < n → 0 < k → Wp N0 (F [.sh (dC b x), .sh (dT y)]) fun p => p = (.sh (dT (mulT x y)), [.sh (dC b x), .sh (dT y)])) {all : D} {n : Nat} (hn : 0 < n) :
    ∀ (xs : List T4) (b : Bool) (acc : T4) (s2 : Sl) (m : Nat), s2.free = true → Bd m acc → 0 < m → (∀ x ∈ xs, Bd n x) → m + xs.length * (n + 1) ≤ 900000 →
      Wp N0 (loopFor (gSet 2) (sLet 1 (eCall 2 F (lCons (eName 1) (lCons (eName 2) lNil)))) (xs.map dT) [.sh all, .sh (dC b acc), s2]) fun x => ∃ b' s2', (b = false → b' = false) ∧ x = .nx [.sh all, .sh (dC b' (xs.foldl mulT acc)), s2']
  | [], b, acc, s2, m, _, _, _, _, _ => ⟨b, s2, id, rfl⟩
  | x :: xs, b, acc, s2, m, hs, ha, hm, hb, hl => by
    rw [List.map_cons, lp_cons]
    have e : gSet 2 (dT x) [.sh all, .sh (dC b acc), s2] = some [.sh all, .sh (dC b acc), .sh (dT x)] := by
      show (if s2.free = true then some [Sl.sh all, .sh (dC b acc), .sh (dT x)] else none) = _
      rw [if_pos hs]
    rw [e]
    have hx := hb x List.mem_cons_self
    have hl2 : m + ((xs.length + 1) * (n + 1)) ≤ 900000 := hl
    rw [Nat.succ_mul] at hl2
    walk_at "EV"
    refine (hF ha hx (by omega) hm hn).mono fun p hp => ?_
    subst hp
    walk_at "EV"
    refine (fold_loop hF hn xs false (mulT acc x) _ (m + n + 1) rfl (ha.mul hx) (by omega) (fun y hy => hb y (List.mem_cons_of_mem _ hy)) (by omega)).mono ?_
    rintro _ ⟨b', s2', hb', rfl⟩
    exact ⟨b', s2', fun _ => hb' rfl, rfl⟩
def oneT : T4 := ⟨1, 0, 0, 1⟩
def prodT (xs : List T4) : T4 := xs.foldl mulT oneT
theorem bd_one : Bd 1 oneT := ⟨by decide, by decide, by decide, by decide⟩
theorem product_of_ok {xs : List T4} {n : Nat} (hn : 0 < n) (hb : ∀ x ∈ xs, Bd n x) (hl : xs.length * (n + 1) ≤ 800000) : Wp N0 (fproduct_of [.sh (.lst (xs.map dT))]) fun p => ∃ b, p = (.sh (dC b (prodT xs)), [.sh (.lst (xs.map dT))]) := by
  unfold fproduct_of cproduct_of
  rw [wp_run]
  walk_at "EV"
  refine (fold_loop (all := .lst (xs.map dT)) product_ok hn xs true oneT .un 1 rfl bd_one (by decide) hb (by omega)).mono fun x hx => ?_
  obtain ⟨b', s2', hb', rfl⟩ := hx
  walk_at "EV"
  exact ⟨b', rfl⟩
theorem made_ok {xs : List T4} {n : Nat} (hn : 0 < n) (hb : ∀ x ∈ xs, Bd n x) (hl : xs.length * (n + 1) ≤ 800000) : Wp N0 (f_law_made [.sh (.lst (xs.map dT))]) fun p => p = (.sh (dT (prodT xs)), [.sh (.lst (xs.map dT))]) := by
  unfold f_law_made c_law_made
  rw [wp_run]
  walk_at "EV"
  refine (fold_loop (all := .lst (xs.map dT)) times_ok hn xs false oneT .un 1 rfl bd_one (by decide) hb (by omega)).mono fun x hx => ?_
  obtain ⟨b', s2', hb', rfl⟩ := hx
  obtain rfl := hb' rfl
  walk_at "EV"
  rfl
theorem rng_len {j : Int} : (rng 0 j).length = j.toNat := by simp [rng]
/-- a list that is told by a drawn place -/
theorem at_all {xs : List D} {i : Int} (Pd : D → Prop) (h0 : 0 ≤ i) (h1 : i < xs.length) (h : ∀ d ∈ xs, Pd d) : ∃ d, atI xs i = some d ∧ Pd d := by
  have hn : i.toNat < xs.length := by omega
  refine ⟨xs[i.toNat], ?_, h _ (List.getElem_mem hn)⟩
  unfold atI ixN
  rw [if_pos h0, if_pos h1]
  exact List.getElem?_eq_getElem hn
theorem wp_of {ε α : Type} {E : String → ε → Prop} {m : R ε α} {Q : α → Prop} {a : α} (e : m = .ok a) (h : Q a) : Wp E m Q := by rw [e]; exact h
/-- a comprehension whose items change nothing -/
theorem lc_pure {j : Nat} {fa : CE1} {ρ : EnvQ} {f : D → D} (hj : ρ.set j .un = ρ) : ∀ ds : List D, (∀ d ∈ ds, Wp N0 (fa (ρ.set j (.sh d))) fun x => x.1.own = some (f d) ∧ x.2 = ρ.set j (.sh d)) → Wp N0 (loopLc j bYes fa ds ρ) fun r => r = (ds.map f, ρ)
  | [], _ => rfl
  | d :: ds, h => by
    rw [lc_cons, wb_yes]
    simp only [if_true]
    refine (h d List.mem_cons_self).mono fun x hx => ?_
    rw [hx.1, hx.2, List.set_set, hj]
    refine (lc_pure hj ds fun y hy => h y (List.mem_cons_of_mem _ hy)).mono fun r hr => ?_
    subst hr
    rfl
def letT (c : Nat) : T4 := if c = 108 then ⟨1, 0, 1, 1⟩ else if c = 114 then ⟨1, 1, 0, 1⟩ else if c = 117 then ⟨1, 2, 0, 1⟩ else if c = 118 then ⟨1, 0, 2, 1⟩ else if c = 85 then ⟨1, -2, 0, 1⟩ else ⟨1, 0, -2, 1⟩
def isLet (c : Nat) : Prop := c = 108 ∨ c = 114 ∨ c = 117 ∨ c = 118 ∨ c = 85 ∨ c = 86
def letK : List (PKey × D) := [(.inr [108], dT ⟨1, 0, 1, 1⟩), (.inr [114], dT ⟨1, 1, 0, 1⟩), (.inr [117], dT ⟨1, 2, 0, 1⟩), (.inr [118], dT ⟨1, 0, 2, 1⟩)]
def letD : D := .dk (letK ++ [(.inr [85], dT ⟨1, -2, 0, 1⟩), (.inr [86], dT ⟨1, 0, -2, 1⟩)])
theorem let_at {c : Nat} (h : isLet c) : gixP letD (.str [c]) = some (.sh (dT (letT c))) := by
  rcases h with rfl | rfl | rfl | rfl | rfl | rfl <;> rfl
theorem let_bd {c : Nat} : Bd 2 (letT c) := by
  unfold letT
  repeat' split
  all_goals exact ⟨by decide, by decide, by decide, by decide⟩
theorem of_letters_ok {w : List Nat} (hw : ∀ c ∈ w, isLet c) (hl : w.length ≤ 100000) : Wp N0 (f_law_of_letters [.sh (.str w)]) fun p => p = (.sh (dT (prodT (w.map letT))), [.sh (.str w)]) := by
  unfold f_law_of_letters c_law_of_letters
  rw [wp_run, ws_seq]
  refine wp_of (a := .nx [.sh (.str w), .ow false (.dk letK), .un]) rfl ?_
  rw [then_nx, ws_seq]
  refine wp_of (a := .nx [.sh (.str w), .ow false letD, .un]) rfl ?_
  walk_at "EV"
  refine ⟨⟨rfl, by rw [List.length_map]; exact hl⟩, (lc_pure (f := fun d => match d with | .str [c] => dT (letT c) | _ => .non) rfl _ fun d hd => ?_).mono ?_⟩
  · obtain ⟨c, hc, rfl⟩ := List.mem_map.mp hd
    wide_open with [let_at (hw c hc)]
  · rintro _ rfl
    walk_at "EV"
    rw [List.map_map]
    have e : (w.map ((fun d : D => match d with | .str [c] => dT (letT c) | _ => .non) ∘ fun c => D.str [c])) = (w.map letT).map dT := by
      rw [List.map_map]
      exact List.map_congr_left fun c _ => rfl
    rw [e]
    refine (made_ok (n := 2) (by decide) (fun x hx => ?_) (by rw [List.length_map]; omega)).mono ?_
    · obtain ⟨c, _, rfl⟩ := List.mem_map.mp hx
      exact let_bd
    · rintro _ rfl
      walk_at "EV"
theorem at_ints {ns : List Int} {i : Int} (h0 : 0 ≤ i) (h1 : i < ns.length) : ∃ j, atI (ns.map D.int) i = some (.int j) := by
  obtain ⟨d, e, j, rfl⟩ := at_all (xs := ns.map D.int) (fun d => ∃ j : Int, d = .int j) h0 (by rw [List.length_map]; exact h1) fun d hd => by
    obtain ⟨j, _, rfl⟩ := List.mem_map.mp hd
    exact ⟨j, rfl⟩
  exact ⟨j, e⟩
def drawsIf : CS := (sIf (bVal (eBin ltP (eName 1) (eCallB lenP (lCons (eName 0) lNil)))) (sLet 3 (eBin modP (eBin gixP (eName 0) (eName 1)) (eBin mulP (eBin powP (eC (.int 10)) (eC (.int 60))) (eBin powP (eC (.int 10)) (eC (.int 60)))))) (sIf (bVal (eBin gtP (eCallB lenP (lCons (eName 0) lNil)) (eC (.int 0)))) (sLet 3 (eBin addP (eBin modP (eBin gixP (eName 0) (eBin modP (eName 1) (eCallB lenP (lCons (eName 0) lNil)))) (eBin powP (eC (.int 10)) (eC (.int 15)))) (eBin mulP (eC (.int 15485863)) (eName 1)))) sNil))
theorem draws_if {ns : List Int} {k c0 : Int} {s2 s4 : Sl} (h0 : 0 ≤ k) (h1 : k < 100) (hc : 0 ≤ c0) (hc1 : c0 < 2 ^ 400) : Wp N0 (drawsIf [.sh (.clst (ns.map D.int)), .sh (.int k), s2, .sh (.int c0), s4]) fun x => ∃ c, 0 ≤ c ∧ c < 2 ^ 410 ∧ x = .nx [.sh (.clst (ns.map D.int)), .sh (.int k), s2, .sh (.int c), s4] := by
  have p1 : (2 : Int) ^ 400 < 2 ^ 410 := by decide +kernel
  unfold drawsIf
  wide_open with [List.length_map]
  split
  · obtain ⟨j, e⟩ := at_ints (ns := ns) (i := k) h0 (by omega)
    rw [e]
    walk_at "EV"
    repeat (refine And.intro (by first | assumption | decide | decide +kernel | omega | exact lg (n := 410) (k := 410) (by omega) (by omega) (by decide) (by decide) (by decide)) ?_)
    refine ⟨_, Int.emod_nonneg _ (by decide +kernel), Int.lt_trans (Int.emod_lt_of_pos _ (by decide +kernel)) (by decide +kernel), rfl⟩
  · split
    · rename_i h2
      have e1 := Int.emod_nonneg k (show (ns.length : Int) ≠ 0 by omega)
      have e2 := Int.emod_lt_of_pos k h2
      refine ⟨h2, ?_⟩
      obtain ⟨j, e⟩ := at_ints (ns := ns) (i := k % ns.length) e1 e2
      rw [e]
      walk_at "EV"
      have e3 := Int.emod_nonneg j (show (1000000000000000 : Int) ≠ 0 by decide)
      have e4 := Int.emod_lt_of_pos j (show (0 : Int) < 1000000000000000 by decide)
      repeat (refine And.intro (by first | assumption | decide | decide +kernel | omega | exact lg (n := 410) (k := 410) (by omega) (by omega) (by decide) (by decide) (by decide)) ?_)
      refine ⟨_, by omega, ?_, rfl⟩
      have p2 : (1000000000000000 : Int) + 15485863 * 100 < 2 ^ 410 := by decide +kernel
      omega
    · exact ⟨c0, hc, by omega, rfl⟩
theorem draws_ok {ns : List Int} {k : Int} (h0 : 0 ≤ k) (h1 : k < 100) : Wp N0 (f_law_draws [.sh (.clst (ns.map D.int)), .sh (.int k)]) fun p => ∃ a b m, Good a b m ∧ p = (.ow (dr a b m), [.sh (.clst (ns.map D.int)), .sh (.int k)]) := by
  unfold f_law_draws c_law_draws
  rw [wp_run, ws_seq]
  refine wp_of (a := .nx [.sh (.clst (ns.map D.int)), .sh (.int k), .sh (.tup [.int 2147483647, .int 2147483629, .int 2147483587, .int 2147483579, .int 2147483563, .int 2147483549, .int 2147483543, .int 2147483497]), .un, .un]) rfl ?_
  rw [then_nx, ws_seq]
  refine Wp.mono (Q := fun x => x = .nx [.sh (.clst (ns.map D.int)), .sh (.int k), .sh (.tup [.int 2147483647, .int 2147483629, .int 2147483587, .int 2147483579, .int 2147483563, .int 2147483549, .int 2147483543, .int 2147483497]), .sh (.int (15485863 * k + 7)), .un]) ?_ ?_
  · walk_at "EV"
    exact lg (n := 24) (k := 7) (by decide) (by omega) (by decide) (by decide) (by decide)
  rintro _ rfl
  rw [then_nx, ws_seq]
  refine Wp.mono (draws_if (s2 := .sh (.tup [.int 2147483647, .int 2147483629, .int 2147483587, .int 2147483579, .int 2147483563, .int 2147483549, .int 2147483543, .int 2147483497])) (s4 := .un) (ns := ns) (k := k) (c0 := 15485863 * k + 7) h0 h1 (by omega) (by
    have p : (15485863 : Int) * 100 + 7 < 2 ^ 400 := by decide +kernel
    omega)) ?_
  rintro _ ⟨c, hc0, hc1, rfl⟩
  walk_at "EV"
  have e1 := Int.emod_nonneg c (show (2147483423 : Int) ≠ 0 by decide)
  have e2 := Int.emod_lt_of_pos c (show (0 : Int) < 2147483423 by decide)
  generalize c % 2147483423 = s1 at e1 e2
  have hk0 : 0 ≤ 2 * k * k := Int.mul_nonneg (by omega) h0
  have hk1 : 2 * k * k ≤ 198 * 99 := Int.mul_le_mul (by omega) (by omega) h0 (by decide)
  refine ⟨lg (n := 7) (k := 7) (by decide) (by omega) (by decide) (by decide) (by decide), lg (n := 7) (k := 7) (by decide) (by omega) (by decide) (by decide) (by decide), lg (n := 8) (k := 7) (by omega) (by omega) (by decide) (by decide) (by decide), ?_⟩
  generalize 2 * k * k = kk at hk0 hk1
  have e3 := Int.emod_nonneg ((s1 + 3 * k + 1) * (48271 + kk)) (show (2147483423 : Int) ≠ 0 by decide)
  have e4 := Int.emod_lt_of_pos ((s1 + 3 * k + 1) * (48271 + kk)) (show (0 : Int) < 2147483423 by decide)
  generalize (s1 + 3 * k + 1) * (48271 + kk) % 2147483423 = s2 at e3 e4
  have e5 : (s2 * s2).natAbs < 2 ^ 64 := by
    rw [Int.natAbs_mul]
    exact Nat.lt_of_lt_of_le (Nat.mul_lt_mul'' (c := 2 ^ 32) (d := 2 ^ 32) (by omega) (by omega)) (by decide)
  have e6 := Int.emod_nonneg (s2 * s2 * s2) (show (2147483399 : Int) ≠ 0 by decide)
  have e7 := Int.emod_lt_of_pos (s2 * s2 * s2) (show (0 : Int) < 2147483399 by decide)
  have e8 : (2 : Int) ^ 410 < 2 ^ 500 := by decide +kernel
  have e9 : (2 : Nat) ^ 410 = ((2 : Int) ^ 410).toNat := by decide +kernel
  have ea : 0 ≤ c * (if 1000000000000000000 ≤ c then 1 else 0) ∧ c * (if 1000000000000000000 ≤ c then 1 else 0) < 2 ^ 500 := by
    split <;> omega
  refine ⟨lg (n := 40) (k := 40) (by omega) (by omega) (by decide) (by decide) (by decide), lg (n := 32) (k := 32) (by omega) (by omega) (by decide) (by decide) (by decide), lg (n := 64) (k := 32) e5 (by omega) (by decide) (by decide) (by decide), by decide, lg (n := 410) (k := 2) (by omega) (by split <;> decide) (by decide) (by decide) (by decide), ?_⟩
  obtain ⟨d, e, m, rfl, m0, m1⟩ := at_all (xs := [D.int 2147483647, .int 2147483629, .int 2147483587, .int 2147483579, .int 2147483563, .int 2147483549, .int 2147483543, .int 2147483497]) (i := k % 8) (fun d => ∃ m : Int, d = .int m ∧ 0 < m ∧ m < 2 ^ 32) (by omega) (by simp only [List.length_cons, List.length_nil]; omega) (by simp)
  rw [e]
  walk_at "EV"
  exact ⟨_, _, m, ⟨ea.1, ea.2, by omega, by omega, m0, m1⟩, rfl⟩
theorem worth_ok {x : T4} {n : Nat} (hx : Bd n x) (h : n + n ≤ 1000000) (h0 : 0 < n) : Wp N0 (fworth [.sh (dT x)]) fun p => p = (.sh (.int (x.a * x.d - x.b * x.c)), [.sh (dT x)]) := by
  unfold fworth cworth
  rw [wp_run]
  walk_at "EV"
  exact ⟨lg hx.a hx.d h h0 h0, lg hx.b hx.c h h0 h0⟩
theorem Wp_ok {ε α : Type} {m : R ε α} {a : α} (h : Wp N0 m fun p => p = a) : m = .ok a := by
  cases m <;> first | exact h.elim | exact congrArg _ h
def backT (x : T4) : T4 := ⟨x.d, 0 - x.b, 0 - x.c, x.a⟩
/-- back, or NoBack -/
theorem back_ok {x : T4} {n : Nat} (hx : Bd n x) (h : n + n ≤ 1000000) (h0 : 0 < n) : Wp (fun c outs => x.a * x.d - x.b * x.c ≠ 1 ∧ c = "NoBack" ∧ outs = [.sh (dT x)]) (fback [.sh (dT x)]) fun p => x.a * x.d - x.b * x.c = 1 ∧ p = (.sh (dT (backT x)), [.sh (dT x)]) := by
  unfold fback cback
  rw [wp_run]
  walk_at "EV"
  refine (worth_ok hx h h0).mono ?_
  rintro _ rfl
  walk_at "EV"
  by_cases hw : x.a * x.d - x.b * x.c = 1
  · rw [hw]
    wide_open with [BEq.rfl, Bool.not_true]
    rfl
  · have e : (x.a * x.d - x.b * x.c == 1) = false := by simpa using hw
    rw [e]
    wide_open with [Bool.not_false]
    exact hw
/-- a comprehension that draws -/
theorem lc_draw {j : Nat} {fa : CE1} {m : Int} {ρf : Int → Int → EnvQ} (Pd : D → Prop) (hstep : ∀ a b d, Good a b m → Wp N0 (fa ((ρf a b).set j (.sh d))) fun x => ∃ dx a' b', x.1.own = some dx ∧ Pd dx ∧ Good a' b' m ∧ x.2.set j .un = ρf a' b') :
    ∀ (ds : List D) (a b : Int), Good a b m → Wp N0 (loopLc j bYes fa ds (ρf a b)) fun r => r.1.length = ds.length ∧ (∀ d ∈ r.1, Pd d) ∧ ∃ a' b', Good a' b' m ∧ r.2 = ρf a' b'
  | [], a, b, g => ⟨rfl, fun _ h => absurd h List.not_mem_nil, a, b, g, rfl⟩
  | d :: ds, a, b, g => by
    rw [lc_cons, wb_yes]
    simp only [if_true]
    refine (hstep a b d g).mono fun x hx => ?_
    obtain ⟨dx, a1, b1, e1, hp, g1, e2⟩ := hx
    rw [e1, e2]
    refine (lc_draw Pd hstep ds a1 b1 g1).mono fun r hr => ?_
    obtain ⟨h1, h2, a2, b2, g2, e3⟩ := hr
    exact ⟨congrArg (· + 1) h1, fun y hy => (List.mem_cons.mp hy).elim (fun z => z ▸ hp) (h2 y), a2, b2, g2, e3⟩
theorem of_four {ds : List D} {n : Nat} (hl : ds.length = 4) (h : ∀ d ∈ ds, ∃ i : Int, d = .int i ∧ i.natAbs < 2 ^ n) : ∃ x : T4, D.tup ds = dT x ∧ Bd n x := by
  match ds, hl with
  | [d1, d2, d3, d4], _ =>
    obtain ⟨i1, rfl, h1⟩ := h d1 (by simp)
    obtain ⟨i2, rfl, h2⟩ := h d2 (by simp)
    obtain ⟨i3, rfl, h3⟩ := h d3 (by simp)
    obtain ⟨i4, rfl, h4⟩ := h d4 (by simp)
    exact ⟨⟨i1, i2, i3, i4⟩, rfl, h1, h2, h3, h4⟩
theorem prod_bd : ∀ (xs : List T4) (acc : T4) (m n : Nat), Bd m acc → (∀ x ∈ xs, Bd n x) → Bd (m + xs.length * (n + 1)) (xs.foldl mulT acc)
  | [], acc, m, n, ha, _ => by simpa using ha
  | x :: xs, acc, m, n, ha, h => by
    have q := prod_bd xs (mulT acc x) (m + n + 1) n (ha.mul (h x List.mem_cons_self)) fun y hy => h y (List.mem_cons_of_mem _ hy)
    have e : m + (xs.length + 1) * (n + 1) = m + n + 1 + xs.length * (n + 1) := by
      rw [Nat.succ_mul]
      omega
    rw [List.length_cons, e]
    exact q
theorem Bd.up {x : T4} {n k : Nat} (h : Bd n x) (hk : n ≤ k) : Bd k x := by
  have p := Nat.pow_le_pow_right (n := 2) (by decide) hk
  exact ⟨Nat.lt_of_lt_of_le h.a p, Nat.lt_of_lt_of_le h.b p, Nat.lt_of_lt_of_le h.c p, Nat.lt_of_lt_of_le h.d p⟩
theorem sing_all {ds : List D} (h : ∀ d ∈ ds, ∃ c, d = .str [c] ∧ isLet c) : ∃ w : List Nat, w.length = ds.length ∧ (∀ c ∈ w, isLet c) ∧ strsD ds = some (w.map fun c => [c]) := by
  induction ds with
  | nil => exact ⟨[], rfl, fun _ h => absurd h List.not_mem_nil, rfl⟩
  | cons d r ih =>
    obtain ⟨w, h1, h2, h3⟩ := ih fun y hy => h y (List.mem_cons_of_mem _ hy)
    obtain ⟨c, rfl, hc⟩ := h d List.mem_cons_self
    refine ⟨c :: w, congrArg (· + 1) h1, fun x hx => (List.mem_cons.mp hx).elim (fun z => z ▸ hc) (h2 x), ?_⟩
    show (strsD r).map _ = _
    rw [h3]
    rfl
theorem join_sing : ∀ w : List Nat, joinT [] (w.map fun c => [c]) = w
  | [] => rfl
  | [c] => rfl
  | c :: d :: r => by
    have ih := join_sing (d :: r)
    show [c] ++ [] ++ joinT [] ((d :: r).map fun c => [c]) = _
    rw [ih]
    rfl
theorem sum_one : ∀ w : List Nat, ((w.map fun c => [c]).map (·.length)).sum = w.length
  | [] => rfl
  | c :: r => by
    rw [List.map_cons, List.map_cons, List.sum_cons, sum_one r, List.length_cons, List.length_cons, List.length_nil]
    omega
theorem join_w {ds : List D} {w : List Nat} (h : strsD ds = some (w.map fun c => [c])) (hl : w.length ≤ 100000) : joinP [] [.lst ds] = some (.sh (.str w)) := by
  show ((strsD ds).bind fun ts => if (ts.map (·.length)).sum + ts.length * 0 ≤ 1000000 then some (Res.sh (.str (joinT [] ts))) else none) = _
  rw [h]
  show (if _ + _ * 0 ≤ 1000000 then some (Res.sh (.str (joinT [] (w.map fun c => [c])))) else none) = _
  rw [sum_one, Nat.mul_zero, if_pos (by omega), join_sing]
theorem add_small {i r : Int} {n : Nat} (hi : i.natAbs < 2 ^ n) (h0 : 0 ≤ r) (h1 : r < 3) : (i + r - 1).natAbs < 2 ^ (n + 1) := by
  rw [Nat.pow_succ]
  have : 0 < 2 ^ n := Nat.pos_of_ne_zero (by simp)
  omega
theorem ring_worth (x y : T4) : (mulT x y).a * (mulT x y).d - (mulT x y).b * (mulT x y).c = (x.a * x.d - x.b * x.c) * (y.a * y.d - y.b * y.c) := by
  unfold mulT
  grind
theorem bd_worth {x : T4} {n : Nat} (h : Bd n x) : (x.a * x.d - x.b * x.c).natAbs < 2 ^ (n + n + 1) := by
  have e : x.a * x.d - x.b * x.c = x.a * x.d + (-x.b) * x.c := by rw [Int.neg_mul, Int.sub_eq_add_neg]
  rw [e]
  exact bd_sum h.a h.d (by rw [Int.natAbs_neg]; exact h.b) h.c
theorem bd_back {x : T4} {n : Nat} (h : Bd n x) : Bd n (backT x) := ⟨h.d, by show (0 - x.b).natAbs < _; rw [Int.zero_sub, Int.natAbs_neg]; exact h.b, by show (0 - x.c).natAbs < _; rw [Int.zero_sub, Int.natAbs_neg]; exact h.c, h.a⟩
theorem back_r {x : T4} (h : x.a * x.d - x.b * x.c = 1) : mulT x (backT x) = oneT := by
  unfold mulT backT oneT
  congr 1 <;> grind
theorem back_l {x : T4} (h : x.a * x.d - x.b * x.c = 1) : mulT (backT x) x = oneT := by
  unfold mulT backT oneT
  congr 1 <;> grind
theorem list_T {n : Nat} : ∀ {ds : List D}, (∀ d ∈ ds, ∃ x : T4, d = dT x ∧ Bd n x) → ∃ xs : List T4, ds = xs.map dT ∧ ∀ x ∈ xs, Bd n x
  | [], _ => ⟨[], rfl, fun _ h => absurd h List.not_mem_nil⟩
  | d :: ds, h => by
    obtain ⟨xs, e, h2⟩ := list_T fun y hy => h y (List.mem_cons_of_mem _ hy)
    obtain ⟨x, rfl, hx⟩ := h d List.mem_cons_self
    exact ⟨x :: xs, by rw [e]; rfl, fun y hy => (List.mem_cons.mp hy).elim (fun z => z ▸ hx) (h2 y)⟩
end QL

end
section
/-! plain tables and words of l and r: plain Lean -/
namespace QL
open PySem PySem.Spec L2 QW
theorem T4.ext' {x y : T4} (h1 : x.a = y.a) (h2 : x.b = y.b) (h3 : x.c = y.c) (h4 : x.d = y.d) : x = y := by
  cases x; cases y
  simp only at h1 h2 h3 h4
  subst h1; subst h2; subst h3; subst h4
  rfl
instance : DecidableEq T4 := fun x y => if h : x.a = y.a ∧ x.b = y.b ∧ x.c = y.c ∧ x.d = y.d then isTrue (T4.ext' h.1 h.2.1 h.2.2.1 h.2.2.2) else isFalse fun z => h (by subst z; exact ⟨rfl, rfl, rfl, rfl⟩)
theorem mul_assoc4 (x y z : T4) : mulT (mulT x y) z = mulT x (mulT y z) := by
  unfold mulT
  congr 1 <;> grind
theorem one_mul4 (x : T4) : mulT oneT x = x := by
  unfold mulT oneT
  cases x
  congr 1 <;> grind
theorem mul_one4 (x : T4) : mulT x oneT = x := by
  unfold mulT oneT
  cases x
  congr 1 <;> grind
theorem fold_mul (x : T4) : ∀ (ys : List T4), ys.foldl mulT x = mulT x (prodT ys)
  | [] => (mul_one4 x).symm
  | y :: ys => by
    rw [List.foldl_cons, fold_mul (mulT x y) ys]
    show _ = mulT x (List.foldl mulT (mulT oneT y) ys)
    rw [one_mul4, fold_mul y ys, mul_assoc4]
theorem prod_cons (y : T4) (ys : List T4) : prodT (y :: ys) = mulT y (prodT ys) := by
  show List.foldl mulT (mulT oneT y) ys = _
  rw [one_mul4, fold_mul]
theorem prod_append (xs ys : List T4) : prodT (xs ++ ys) = mulT (prodT xs) (prodT ys) := by
  show List.foldl mulT oneT (xs ++ ys) = _
  rw [List.foldl_append]
  exact fold_mul _ ys
/-- the table of a text -/
def tabW (w : List Nat) : T4 := prodT (w.map letT)
theorem tab_nil : tabW [] = oneT := rfl
theorem tab_cons (c : Nat) (w : List Nat) : tabW (c :: w) = mulT (letT c) (tabW w) := prod_cons _ _
theorem tab_append (v w : List Nat) : tabW (v ++ w) = mulT (tabW v) (tabW w) := by
  unfold tabW
  rw [List.map_append, prod_append]
def LR (w : List Nat) : Prop := ∀ c ∈ w, c = 108 ∨ c = 114
theorem LR.isLet {w : List Nat} (h : LR w) : ∀ c ∈ w, isLet c := fun c hc => (h c hc).elim (fun z => .inl z) fun z => .inr (.inl z)
theorem LR.nil : LR [] := fun _ h => absurd h List.not_mem_nil
theorem LR.cons {c : Nat} {w : List Nat} (hc : c = 108 ∨ c = 114) (h : LR w) : LR (c :: w) := fun x hx => (List.mem_cons.mp hx).elim (fun z => z ▸ hc) (h x)
theorem LR.tail {c : Nat} {w : List Nat} (h : LR (c :: w)) : LR w := fun x hx => h x (List.mem_cons_of_mem _ hx)
theorem LR.app {v w : List Nat} (h : LR v) (g : LR w) : LR (v ++ w) := fun x hx => (List.mem_append.mp hx).elim (h x) (g x)
theorem LR.sub {v w : List Nat} (h : LR w) (s : ∀ c ∈ v, c ∈ w) : LR v := fun x hx => h x (s x hx)
theorem LR.drop {w : List Nat} (h : LR w) (n : Nat) : LR (w.drop n) := h.sub fun _ hc => List.mem_of_mem_drop hc
theorem LR.take {w : List Nat} (h : LR w) (n : Nat) : LR (w.take n) := h.sub fun _ hc => List.mem_of_mem_take hc
def worthT (x : T4) : Int := x.a * x.d - x.b * x.c
/-- a plain table -/
structure Pl (x : T4) : Prop where
  a : 0 ≤ x.a
  b : 0 ≤ x.b
  c : 0 ≤ x.c
  d : 0 ≤ x.d
  w : worthT x = 1
theorem let_l (x : T4) : mulT (letT 108) x = ⟨x.a, x.b, x.a + x.c, x.b + x.d⟩ := by
  show mulT ⟨1, 0, 1, 1⟩ x = _
  unfold mulT
  congr 1 <;> grind
theorem let_r (x : T4) : mulT (letT 114) x = ⟨x.a + x.c, x.b + x.d, x.c, x.d⟩ := by
  show mulT ⟨1, 1, 0, 1⟩ x = _
  unfold mulT
  congr 1 <;> grind
theorem pl_one : Pl oneT := ⟨by decide, by decide, by decide, by decide, by decide⟩
theorem pl_l {x : T4} (h : Pl x) : Pl (mulT (letT 108) x) := by
  have hw := h.w
  unfold worthT at hw
  rw [let_l]
  exact ⟨h.a, h.b, Int.add_nonneg h.a h.c, Int.add_nonneg h.b h.d, by unfold worthT; show x.a * (x.b + x.d) - x.b * (x.a + x.c) = 1; grind⟩
theorem pl_r {x : T4} (h : Pl x) : Pl (mulT (letT 114) x) := by
  have hw := h.w
  unfold worthT at hw
  rw [let_r]
  exact ⟨Int.add_nonneg h.a h.c, Int.add_nonneg h.b h.d, h.c, h.d, by unfold worthT; show (x.a + x.c) * x.d - (x.b + x.d) * x.c = 1; grind⟩
theorem pl_tab : ∀ {w : List Nat}, LR w → Pl (tabW w)
  | [], _ => pl_one
  | c :: w, h => by
    rw [tab_cons]
    rcases h c List.mem_cons_self with rfl | rfl
    · exact pl_l (pl_tab h.tail)
    · exact pl_r (pl_tab h.tail)
/-- of a plain table one row is the greater one -/
theorem pl_rows {x : T4} (h : Pl x) : (x.c ≤ x.a ∧ x.d ≤ x.b) ∨ (x.a ≤ x.c ∧ x.b ≤ x.d) ∨ x = oneT := by
  obtain ⟨ha, hb, hc, hd, hw⟩ := h
  unfold worthT at hw
  obtain ⟨a, b, c, d⟩ := x
  simp only at ha hb hc hd hw ⊢
  by_cases h1 : c ≤ a
  · by_cases h2 : d ≤ b
    · exact .inl ⟨h1, h2⟩
    · -- c ≤ a, b < d: then a ≤ c, or it is one
      have e : a * d - b * c = a * (d - b) + b * (a - c) := by grind
      have p1 : a ≤ a * (d - b) := by
        have := Int.mul_le_mul_of_nonneg_left (show 1 ≤ d - b by omega) ha
        omega
      have p2 : 0 ≤ b * (a - c) := Int.mul_nonneg hb (by omega)
      by_cases h3 : a ≤ c
      · exact .inr (.inl ⟨h3, by omega⟩)
      · have ha1 : a = 1 := by omega
        have hc0 : c = 0 := by omega
        subst ha1; subst hc0
        have : b = 0 := by omega
        subst this
        have : d = 1 := by omega
        subst this
        exact .inr (.inr rfl)
  · by_cases h2 : b ≤ d
    · exact .inr (.inl ⟨by omega, h2⟩)
    · have e : a * d - b * c = a * (d - b) - b * (c - a) := by grind
      have p1 : 0 ≤ b * (c - a) := Int.mul_nonneg hb (by omega)
      have p2 : a * (d - b) ≤ 0 := by
        have := Int.mul_nonneg ha (show 0 ≤ b - d by omega)
        have e2 : a * (b - d) = -(a * (d - b)) := by grind
        omega
      omega
def sumT (x : T4) : Int := x.a + x.b + x.c + x.d
theorem pl_row2 {x : T4} (h : Pl x) : 1 ≤ x.c + x.d := by
  obtain ⟨ha, hb, hc, hd, hw⟩ := h
  unfold worthT at hw
  by_cases z : x.c = 0 ∧ x.d = 0
  · rw [z.1, z.2] at hw
    omega
  · omega
theorem pl_row1 {x : T4} (h : Pl x) : 1 ≤ x.a + x.b := by
  obtain ⟨ha, hb, hc, hd, hw⟩ := h
  unfold worthT at hw
  by_cases z : x.a = 0 ∧ x.b = 0
  · rw [z.1, z.2] at hw
    omega
  · omega
/-- each plain table is made by a word -/
theorem pl_word : ∀ (n : Nat) {x : T4}, Pl x → (sumT x).toNat ≤ n → ∃ w, LR w ∧ tabW w = x
  | 0, x, h, hn => by
    have h1 := pl_row1 h; have h2 := pl_row2 h
    unfold sumT at hn
    omega
  | n + 1, x, h, hn => by
    have h1 := pl_row1 h; have h2 := pl_row2 h
    have hw := h.w
    unfold worthT at hw
    unfold sumT at hn
    rcases pl_rows h with ⟨g1, g2⟩ | ⟨g1, g2⟩ | rfl
    · have hp : Pl ⟨x.a - x.c, x.b - x.d, x.c, x.d⟩ := ⟨by show 0 ≤ x.a - x.c; omega, by show 0 ≤ x.b - x.d; omega, h.c, h.d, by unfold worthT; show (x.a - x.c) * x.d - (x.b - x.d) * x.c = 1; grind⟩
      obtain ⟨w, hl, e⟩ := pl_word n hp (by unfold sumT; simp only; omega)
      refine ⟨114 :: w, hl.cons (.inr rfl), ?_⟩
      rw [tab_cons, e, let_r]
      exact T4.ext' (by simp only; omega) (by simp only; omega) rfl rfl
    · have hp : Pl ⟨x.a, x.b, x.c - x.a, x.d - x.b⟩ := ⟨h.a, h.b, by show 0 ≤ x.c - x.a; omega, by show 0 ≤ x.d - x.b; omega, by unfold worthT; show x.a * (x.d - x.b) - x.b * (x.c - x.a) = 1; grind⟩
      obtain ⟨w, hl, e⟩ := pl_word n hp (by unfold sumT; simp only; omega)
      refine ⟨108 :: w, hl.cons (.inl rfl), ?_⟩
      rw [tab_cons, e, let_l]
      exact T4.ext' rfl rfl (by simp only; omega) (by simp only; omega)
    · exact ⟨[], LR.nil, rfl⟩
theorem pl_made {x : T4} (h : Pl x) : ∃ w, LR w ∧ tabW w = x := pl_word _ h (Nat.le_refl _)
/-- the first letter is told by the rows -/
theorem tab_r {w : List Nat} (h : LR w) : (tabW (114 :: w)).c ≤ (tabW (114 :: w)).a ∧ (tabW (114 :: w)).d ≤ (tabW (114 :: w)).b := by
  have p := pl_tab h
  rw [tab_cons, let_r]
  exact ⟨by have := p.a; show (tabW w).c ≤ (tabW w).a + (tabW w).c; omega, by have := p.b; show (tabW w).d ≤ (tabW w).b + (tabW w).d; omega⟩
theorem tab_l {w : List Nat} (h : LR w) : ¬ ((tabW (108 :: w)).c ≤ (tabW (108 :: w)).a ∧ (tabW (108 :: w)).d ≤ (tabW (108 :: w)).b) := by
  have p := pl_tab h
  have := pl_row2 p
  rw [tab_cons, let_l]
  show ¬ ((tabW w).a + (tabW w).c ≤ (tabW w).a ∧ (tabW w).b + (tabW w).d ≤ (tabW w).b)
  have := p.c; have := p.d
  omega
theorem tab_sum : ∀ {w : List Nat}, LR w → (w.length : Int) + 2 ≤ sumT (tabW w)
  | [], _ => by show (0 : Int) + 2 ≤ 2; decide
  | c :: w, h => by
    have ih := tab_sum h.tail
    have p := pl_tab h.tail
    have h1 := pl_row1 p; have h2 := pl_row2 p
    unfold sumT at ih ⊢
    rw [tab_cons]
    rcases h c List.mem_cons_self with rfl | rfl
    · rw [let_l, List.length_cons]
      simp only
      omega
    · rw [let_r, List.length_cons]
      simp only
      omega
theorem tab_one {w : List Nat} (h : LR w) (e : tabW w = oneT) : w = [] := by
  have := tab_sum h
  rw [e] at this
  have e2 : sumT oneT = 2 := rfl
  rw [e2] at this
  cases w with
  | nil => rfl
  | cons c w => rw [List.length_cons] at this; omega
theorem back_l' {x y : T4} (e : mulT (letT 108) x = mulT (letT 108) y) : x = y := by
  rw [let_l, let_l] at e
  have h1 := congrArg T4.a e; have h2 := congrArg T4.b e; have h3 := congrArg T4.c e; have h4 := congrArg T4.d e
  simp only at h1 h2 h3 h4
  exact T4.ext' h1 h2 (by omega) (by omega)
theorem back_r' {x y : T4} (e : mulT (letT 114) x = mulT (letT 114) y) : x = y := by
  rw [let_r, let_r] at e
  have h1 := congrArg T4.a e; have h2 := congrArg T4.b e; have h3 := congrArg T4.c e; have h4 := congrArg T4.d e
  simp only at h1 h2 h3 h4
  exact T4.ext' (by omega) (by omega) h3 h4
/-- unlike words make unlike tables -/
theorem tab_inj : ∀ {v w : List Nat}, LR v → LR w → tabW v = tabW w → v = w
  | [], w, _, hw, e => (tab_one hw e.symm).symm
  | c :: v, [], hv, _, e => absurd (tab_one hv e) (by simp)
  | c :: v, d :: w, hv, hw, e => by
    rcases hv c List.mem_cons_self with rfl | rfl <;> rcases hw d List.mem_cons_self with rfl | rfl
    · rw [tab_cons, tab_cons] at e
      rw [tab_inj hv.tail hw.tail (back_l' e)]
    · exact absurd (e ▸ tab_r hw.tail) (tab_l hv.tail)
    · exact absurd (e.symm ▸ tab_r hv.tail) (tab_l hw.tail)
    · rw [tab_cons, tab_cons] at e
      rw [tab_inj hv.tail hw.tail (back_r' e)]
theorem tab_rr : ∀ n : Nat, tabW (List.replicate n 114) = ⟨1, n, 0, 1⟩
  | 0 => rfl
  | n + 1 => by
    rw [List.replicate_succ, tab_cons, tab_rr n, let_r]
    exact T4.ext' rfl (by simp only; omega) rfl rfl
theorem tab_ll : ∀ n : Nat, tabW (List.replicate n 108) = ⟨1, 0, n, 1⟩
  | 0 => rfl
  | n + 1 => by
    rw [List.replicate_succ, tab_cons, tab_ll n, let_l]
    exact T4.ext' rfl rfl (by simp only; omega) rfl
theorem LR.rep {n c : Nat} (h : c = 108 ∨ c = 114) : LR (List.replicate n c) := fun x hx => (List.eq_of_mem_replicate hx) ▸ h
theorem tab_bd (w : List Nat) (hw : ∀ c ∈ w, isLet c) : Bd (1 + w.length * 3) (tabW w) := by
  have := prod_bd (w.map letT) oneT 1 2 bd_one fun x hx => by
    obtain ⟨c, _, rfl⟩ := List.mem_map.mp hx
    exact let_bd
  rw [List.length_map] at this
  exact this
end QL

end
section
/-! what the defs of plain.py and rows.py's makers do -/
namespace QL
open PySem PySem.Spec L2 QW
local macro_rules | `(tactic| walk_at "EV") => `(tactic| simp only [ws_raise, ws_try, ws_tryR, we_mtS, as_e, as_str, D.asI, wo_none, wo_some, we_slice, wp_exc, ws_seq, ws_if, ws_nil, ws_let, ws_set, ws_ret, ws_asg, ws_par, par_2, next_nx, ws_expr, ws_sub, ws_for, then_nx, then_rt, let_sh, let_ow, set_sh, set_ow, store_un, store_sh, store_ow, ret_sh, ret_ow, ret_al, back_sh, back_ow, own_ow, run_nx, run_rt, wb_val, bl_is, wb_and, wb_or, wb_not, ds_e, ds_l, ds_r, ds_lr, ds_u, ds_v, ds_U, ds_V, ds_uv, ds_uvUV, ds_mi, ds_n0, ds_n1, ds_co, ds_sl, ds_bl, ds_rr, ds_rrr, ds_ll, we_bin, we_chain, chain_b, we_un, we_if, we_and, we_or, we_not, we_name, slot_sh, slot_ow, we_share, share_sh, share_ow, we_c, we_tup, we_lst, we_callB, we_isT, we_call, we_mut, wl_nil, wl_cons, wp_bind, wp_ok, wp_opt, at_some, at_map, List.map_cons, List.map_nil, Ar.sl, List.length_cons, List.length_nil, List.cons_append, List.nil_append, List.getElem?_cons_zero, List.getElem?_cons_succ, List.set_cons_zero, List.set_cons_succ, Res.get, Res.own, owns, gets, argsOf, lentS, backS, Ar.res, outsOf, Option.map_some, Option.bind_some, Bool.true_eq_false, Bool.false_eq_true, if_true, if_false, g_lst, g_tup, g_clst, g_ctup, s_lst, p_add, p_sub, p_mul, p_mod, p_fdiv, p_pow, p_neg, p_lt, p_le, p_gt, p_ge, p_eqI, p_neI, p_mulT, p_mulL, p_addT, p_addL, p_slT, p_slL, p_start, p_start3, p_end, p_lenT, p_abs, p_ii_max, p_ii_min, Res.norm, ix_0, ix_1, ix_2, ix_3, n3_0, n3_1, n3_2, List.replicate, decide_eq_true_eq, and_true, true_and, List.nodup_nil, List.nodup_cons, List.not_mem_nil, not_false_eq_true, gSet, fr_un, fr_sh, fr_ow, eq_self, gTupD, gsCons, gsNil, lp_nil, lp_cons, loop_nx, loop_rt, wi_any, wk_l, wk_t, wk_c, wi_r1, wi_r2, asI1, asI2, rng_2, rng_4, isL, isDi, ap_M, tu_l, tu_t, ld_l, ld_t, len_l, len_t, len_c, len_ct, int_b, int_i, wb_yes, we_comp, lc_nil, isTn, forD_sh, ws_forD, we_compD, compD_sh, ko_k, ko_t, we_dget, we_dget2, is_dk, is_dt, wi_enu, as_L, Bool.not_true, Bool.not_false, Bool.and_self, Int.reduceAdd, Int.reduceSub, Int.reduceMul, Int.reduceNeg, Int.reducePow, Int.reduceToNat, Nat.reduceLT, Int.reduceLT, Int.reduceLE, Nat.reduceAdd, Nat.reduceSub, Nat.reduceLeDiff, Nat.reduceEqDiff])
local macro_rules | `(tactic| wide_open with [$xs,*]) => `(tactic| simp only [ws_raise, ws_try, ws_tryR, we_mtS, as_e, as_str, D.asI, wo_none, wo_some, we_slice, wp_exc, ws_seq, ws_if, ws_nil, ws_let, ws_set, ws_ret, ws_asg, ws_par, par_2, next_nx, ws_expr, ws_sub, ws_for, then_nx, then_rt, let_sh, let_ow, set_sh, set_ow, store_un, store_sh, store_ow, ret_sh, ret_ow, ret_al, back_sh, back_ow, own_ow, run_nx, run_rt, wb_val, bl_is, wb_and, wb_or, wb_not, ds_e, ds_l, ds_r, ds_lr, ds_u, ds_v, ds_U, ds_V, ds_uv, ds_uvUV, ds_mi, ds_n0, ds_n1, ds_co, ds_sl, ds_bl, ds_rr, ds_rrr, ds_ll, we_bin, we_chain, chain_b, we_un, we_if, we_and, we_or, we_not, we_name, slot_sh, slot_ow, we_share, share_sh, share_ow, we_c, we_tup, we_lst, we_callB, we_isT, we_call, we_mut, wl_nil, wl_cons, wp_bind, wp_ok, wp_opt, at_some, at_map, List.map_cons, List.map_nil, Ar.sl, List.length_cons, List.length_nil, List.cons_append, List.nil_append, List.getElem?_cons_zero, List.getElem?_cons_succ, List.set_cons_zero, List.set_cons_succ, Res.get, Res.own, owns, gets, argsOf, lentS, backS, Ar.res, outsOf, Option.map_some, Option.bind_some, Bool.true_eq_false, Bool.false_eq_true, if_true, if_false, g_lst, g_tup, g_clst, g_ctup, s_lst, p_add, p_sub, p_mul, p_mod, p_fdiv, p_pow, p_neg, p_lt, p_le, p_gt, p_ge, p_eqI, p_neI, p_mulT, p_mulL, p_addT, p_addL, p_slT, p_slL, p_start, p_start3, p_end, p_lenT, p_abs, p_ii_max, p_ii_min, Res.norm, ix_0, ix_1, ix_2, ix_3, n3_0, n3_1, n3_2, List.replicate, decide_eq_true_eq, and_true, true_and, List.nodup_nil, List.nodup_cons, List.not_mem_nil, not_false_eq_true, gSet, fr_un, fr_sh, fr_ow, eq_self, gTupD, gsCons, gsNil, lp_nil, lp_cons, loop_nx, loop_rt, wi_any, wk_l, wk_t, wk_c, wi_r1, wi_r2, asI1, asI2, rng_2, rng_4, isL, isDi, ap_M, tu_l, tu_t, ld_l, ld_t, len_l, len_t, len_c, len_ct, int_b, int_i, wb_yes, we_comp, lc_nil, isTn, forD_sh, ws_forD, we_compD, compD_sh, ko_k, ko_t, we_dget, we_dget2, is_dk, is_dt, wi_enu, as_L, Bool.not_true, Bool.not_false, Bool.and_self, Int.reduceAdd, Int.reduceSub, Int.reduceMul, Int.reduceNeg, Int.reducePow, Int.reduceToNat, Nat.reduceLT, Int.reduceLT, Int.reduceLE, Nat.reduceAdd, Nat.reduceSub, Nat.reduceLeDiff, Nat.reduceEqDiff, $[$xs:term],*])
theorem str_beq (a b : List Nat) : (a == b) = decide (a = b) := by
  by_cases h : a = b
  · subst h; simp
  · rw [beq_eq_false_iff_ne.mpr h, decide_eq_false h]
theorem int_beq (a b : Int) : (a == b) = decide (a = b) := by
  by_cases h : a = b
  · subst h; simp
  · rw [beq_eq_false_iff_ne.mpr h, decide_eq_false h]
theorem tup_eq (a b c d e f g h : Int) : neP (.tup [.int a, .int b, .int c, .int d]) (.ctup [.int e, .int f, .int g, .int h]) = some (.sh (.bl (!decide (T4.mk a b c d = T4.mk e f g h)))) := by
  rw [p_ne rfl rfl]
  have e1 : deq (.tup [.int a, .int b, .int c, .int d]) (.ctup [.int e, .int f, .int g, .int h]) = ((a == e) && ((b == f) && ((c == g) && ((d == h) && true)))) := rfl
  rw [e1]
  congr 3
  simp only [int_beq, Bool.and_true, T4.mk.injEq, Bool.decide_and]
instance (x : T4) : Decidable (Pl x) := decidable_of_iff (0 ≤ x.a ∧ 0 ≤ x.b ∧ 0 ≤ x.c ∧ 0 ≤ x.d ∧ worthT x = 1) ⟨fun ⟨a, b, c, d, w⟩ => ⟨a, b, c, d, w⟩, fun ⟨a, b, c, d, w⟩ => ⟨a, b, c, d, w⟩⟩
theorem is_plain_ok {x : T4} {n : Nat} (hx : Bd n x) (h : n + n ≤ 1000000) (h0 : 0 < n) : Wp N0 (fis_plain [.sh (dT x)]) fun p => p = (.sh (.bl (decide (Pl x))), [.sh (dT x)]) := by
  unfold fis_plain cis_plain
  rw [wp_run]
  wide_open with [p_minT]
  have e0 : Pl x ↔ 0 ≤ min (min (min x.a x.b) x.c) x.d ∧ worthT x = 1 := ⟨fun ⟨a, b, c, d, w⟩ => ⟨by omega, w⟩, fun ⟨a, w⟩ => ⟨by omega, by omega, by omega, by omega, w⟩⟩
  by_cases hm : 0 ≤ min (min (min x.a x.b) x.c) x.d
  · rw [if_pos hm]
    refine (worth_ok hx h h0).mono ?_
    rintro _ rfl
    walk_at "EV"
    rw [int_beq]
    have e : decide (x.a * x.d - x.b * x.c = 1) = decide (Pl x) := decide_eq_decide.mpr ⟨fun z => e0.mpr ⟨hm, z⟩, fun z => (e0.mp z).2⟩
    rw [e]
  · rw [if_neg hm]
    have e : decide (Pl x) = false := decide_eq_false fun z => hm (e0.mp z).1
    rw [e]

theorem look_ok {x : T4} {n : Nat} (hx : Bd n x) (h : n + n ≤ 1000000) (h0 : 0 < n) : Wp (fun c outs => ¬ Pl x ∧ c = "NoPlain" ∧ outs = [.sh (dT x)]) (flook_at_plain [.sh (dT x)]) fun p => Pl x ∧ p = (.sh .non, [.sh (dT x)]) := by
  unfold flook_at_plain clook_at_plain
  rw [wp_run]
  walk_at "EV"
  refine (is_plain_ok hx h h0).mono ?_
  rintro _ rfl
  walk_at "EV"
  by_cases z : Pl x
  · rw [decide_eq_true z]
    walk_at "EV"
    exact z
  · rw [decide_eq_false z]
    walk_at "EV"
    exact z
theorem letters_join {w : List Nat} (hl : w.length ≤ 100000) : joinP [] [.lst (w.map fun c => D.str [c])] = some (.sh (.str w)) := by
  refine join_w ?_ hl
  induction w with
  | nil => rfl
  | cons c r ih =>
    show (strsD (r.map fun c => D.str [c])).map _ = _
    rw [ih (by rw [List.length_cons] at hl; omega)]
    rfl
def wordEnv (x0 y : T4) (k : List Nat) : EnvQ := [.sh (dT x0), .sh (.int y.a), .sh (.int y.b), .sh (.int y.c), .sh (.int y.d), .ow false (.lst (k.map fun c => D.str [c]))]
/-- the word of a plain table; or it is too long -/
theorem word_of_ok {w : List Nat} (hw : LR w) {n : Nat} (hx : Bd n (tabW w)) (h : n + n ≤ 1000000) (h0 : 0 < n) : Wp (fun c outs => 400 < w.length ∧ c = "TooLong" ∧ outs = [.sh (dT (tabW w))]) (fword_of [.sh (dT (tabW w))]) fun p => w.length ≤ 400 ∧ p = (.sh (.str w), [.sh (dT (tabW w))]) := by
  unfold fword_of cword_of
  rw [wp_run]
  walk_at "EV"
  refine (look_ok hx h h0).imp (fun c e hh => absurd (pl_tab hw) hh.1) ?_
  rintro _ ⟨_, rfl⟩
  walk_at "EV"
  refine ws_while.mpr ?_
  refine wp_while (I := fun ρ => ∃ k v, k ++ v = w ∧ k.length ≤ 400 ∧ ρ = wordEnv (tabW w) (tabW v) k) (μ := fun ρ => 401 - slLen 5 ρ) ?_ _ _ ⟨[], w, rfl, by decide, rfl⟩ (show 401 - 0 < 1000000000 by decide)
  rintro ρ ⟨k, v, hkv, hk, rfl⟩
  have hv : LR v := hw.sub fun c hc => by rw [← hkv]; exact List.mem_append_right _ hc
  have hwl : w.length = k.length + v.length := by rw [← hkv, List.length_append]
  unfold wordEnv
  wide_open with [tup_eq]
  by_cases hv0 : v = []
  · subst hv0
    rw [decide_eq_true (show T4.mk (tabW []).a (tabW []).b (tabW []).c (tabW []).d = T4.mk 1 0 0 1 from rfl)]
    rw [List.append_nil] at hkv
    subst hkv
    wide_open with [letters_join (show k.length ≤ 100000 by omega)]
    exact hk
  · have hne : ¬ T4.mk (tabW v).a (tabW v).b (tabW v).c (tabW v).d = T4.mk 1 0 0 1 := fun z => hv0 (tab_one hv z)
    rw [decide_eq_false hne]
    wide_open with [List.length_map]
    by_cases h4 : k.length = 400
    · rw [show ((k.length : Int) == 400) = true by rw [h4]; rfl]
      walk_at "EV"
      have : 0 < v.length := List.length_pos_iff.mpr hv0
      omega
    · rw [show ((k.length : Int) == 400) = false by rw [beq_eq_false_iff_ne]; omega]
      walk_at "EV"
      cases v with
      | nil => exact absurd rfl hv0
      | cons c v =>
        have hv' := hv.tail
        have hm : ∀ c : Nat, (k.map fun c => D.str [c]) ++ [D.str [c]] = (k ++ [c]).map fun c => D.str [c] := fun c => by rw [List.map_append]; rfl
        rcases hv c List.mem_cons_self with rfl | rfl
        · have hno := tab_l hv'
          have hif : ∀ {A B : Prop}, B → (if (tabW (108 :: v)).c ≤ (tabW (108 :: v)).a then if (tabW (108 :: v)).d ≤ (tabW (108 :: v)).b then A else B else B) := by
            intro A B hB
            by_cases g1 : (tabW (108 :: v)).c ≤ (tabW (108 :: v)).a
            · rw [if_pos g1, if_neg fun g2 => hno ⟨g1, g2⟩]; exact hB
            · rw [if_neg g1]; exact hB
          have ea : (tabW (108 :: v)).a = (tabW v).a := by rw [tab_cons, let_l]
          have eb : (tabW (108 :: v)).b = (tabW v).b := by rw [tab_cons, let_l]
          have ec : (tabW (108 :: v)).c - (tabW (108 :: v)).a = (tabW v).c := by rw [tab_cons, let_l]; simp only; omega
          have ed : (tabW (108 :: v)).d - (tabW (108 :: v)).b = (tabW v).d := by rw [tab_cons, let_l]; simp only; omega
          refine hif ⟨by omega, ⟨k ++ [108], v, by rw [← hkv]; simp, by rw [List.length_append]; simp only [List.length_cons, List.length_nil]; omega, ?_⟩, ?_⟩
          · rw [ec, ed, ea, eb, ← hm 108]
          · show 401 - ((k.map fun c => D.str [c]) ++ [D.str [108]]).length < 401 - (k.map fun c => D.str [c]).length
            rw [List.length_append, List.length_map]
            simp only [List.length_cons, List.length_nil]
            omega
        · have hyes := tab_r hv'
          have ea : (tabW (114 :: v)).a - (tabW (114 :: v)).c = (tabW v).a := by rw [tab_cons, let_r]; simp only; omega
          have eb : (tabW (114 :: v)).b - (tabW (114 :: v)).d = (tabW v).b := by rw [tab_cons, let_r]; simp only; omega
          have ec : (tabW (114 :: v)).c = (tabW v).c := by rw [tab_cons, let_r]
          have ed : (tabW (114 :: v)).d = (tabW v).d := by rw [tab_cons, let_r]
          rw [if_pos hyes.1, if_pos hyes.2]
          refine ⟨by omega, ⟨k ++ [114], v, by rw [← hkv]; simp, by rw [List.length_append]; simp only [List.length_cons, List.length_nil]; omega, ?_⟩, ?_⟩
          · rw [ea, eb, ec, ed, ← hm 114]
          · show 401 - ((k.map fun c => D.str [c]) ++ [D.str [114]]).length < 401 - (k.map fun c => D.str [c]).length
            rw [List.length_append, List.length_map]
            simp only [List.length_cons, List.length_nil]
            omega

/-- not plain -/
theorem word_of_no {x : T4} {n : Nat} (hp : ¬ Pl x) (hx : Bd n x) (h : n + n ≤ 1000000) (h0 : 0 < n) : Wp (fun c outs => c = "NoPlain" ∧ outs = [.sh (dT x)]) (fword_of [.sh (dT x)]) fun _ => False := by
  unfold fword_of cword_of
  rw [wp_run]
  walk_at "EV"
  refine (look_ok hx h h0).imp (fun c e hh => ?_) fun a hh => absurd hh.1 hp
  obtain ⟨_, rfl, rfl⟩ := hh
  exact ⟨rfl, rfl⟩
theorem word_of_fit {w : List Nat} (hw : LR w) (hl : w.length ≤ 400) : Wp N0 (fword_of [.sh (dT (tabW w))]) fun p => p = (.sh (.str w), [.sh (dT (tabW w))]) :=
  (word_of_ok hw (tab_bd w hw.isLet) (by omega) (by omega)).imp (fun _ _ h => by omega) fun _ h => h.2
/-- texts as makers' words -/
structure Mk (w : List Nat) : Prop where
  lr : LR w
  one : 1 ≤ w.length
  most : w.length ≤ 40
theorem maker_ok {w : List Nat} (hw : Mk w) : Wp N0 (fmaker_word_rows [.sh (dT (tabW w))]) fun p => p = (.sh (.str w), [.sh (dT (tabW w))]) := by
  have h1 := hw.one; have h2 := hw.most
  unfold fmaker_word_rows cmaker_word_rows
  rw [wp_run]
  walk_at "EV"
  refine (is_plain_ok (tab_bd w hw.lr.isLet) (by omega) (by omega)).mono ?_
  rintro _ rfl
  rw [decide_eq_true (pl_tab hw.lr)]
  walk_at "EV"
  refine (word_of_fit hw.lr (by omega)).mono ?_
  rintro _ rfl
  walk_at "EV"
  rw [if_pos (show (1 : Int) ≤ w.length by omega), decide_eq_true (show (w.length : Int) ≤ 40 by omega)]
  exact ⟨by omega, trivial⟩
structure Mks (ws : List (List Nat)) : Prop where
  one : 1 ≤ ws.length
  most : ws.length ≤ 8
  all : ∀ w ∈ ws, Mk w
abbrev encW (ws : List (List Nat)) : D := .lst (ws.map D.str)
abbrev encM (ws : List (List Nat)) : D := .lst (ws.map fun w => dT (tabW w))
theorem words_of_ok {ws : List (List Nat)} (h : Mks ws) : Wp N0 (fwords_of [.sh (encM ws)]) fun p => p = (.ow (encW ws), [.sh (encM ws)]) := by
  have h1 := h.one; have h2 := h.most
  unfold fwords_of cwords_of encM
  rw [wp_run]
  wide_open with [List.length_map]
  rw [if_pos (show (1 : Int) ≤ ws.length by omega), decide_eq_true (show (ws.length : Int) ≤ 8 by omega)]
  walk_at "EV"
  refine ⟨⟨rfl, by omega⟩, ?_⟩
  refine (lc_map (g := D.str) rfl ws fun w hw => ?_).monoE ?_
  · walk_at "EV"
    refine (maker_ok (h.all w hw)).mono ?_
    rintro _ rfl
    walk_at "EV"
  · rintro _ rfl
    walk_at "EV"
end QL

end
section
/-! what the laws' helpers draw: texts of l and r, makers, targets -/
namespace QL
open PySem PySem.Spec L2 QW
local macro_rules | `(tactic| walk_at "EV") => `(tactic| simp only [ws_raise, ws_try, ws_tryR, we_mtS, as_e, as_str, D.asI, wo_none, wo_some, we_slice, wp_exc, ws_seq, ws_if, ws_nil, ws_let, ws_set, ws_ret, ws_asg, ws_par, par_2, next_nx, ws_expr, ws_sub, ws_for, then_nx, then_rt, let_sh, let_ow, set_sh, set_ow, store_un, store_sh, store_ow, ret_sh, ret_ow, ret_al, back_sh, back_ow, own_ow, run_nx, run_rt, wb_val, bl_is, wb_and, wb_or, wb_not, ds_e, ds_l, ds_r, ds_lr, ds_u, ds_v, ds_U, ds_V, ds_uv, ds_uvUV, ds_mi, ds_n0, ds_n1, ds_co, ds_sl, ds_bl, ds_rr, ds_rrr, ds_ll, we_bin, we_chain, chain_b, we_un, we_if, we_and, we_or, we_not, we_name, slot_sh, slot_ow, we_share, share_sh, share_ow, we_c, we_tup, we_lst, we_callB, we_isT, we_call, we_mut, wl_nil, wl_cons, wp_bind, wp_ok, wp_opt, at_some, at_map, List.map_cons, List.map_nil, Ar.sl, List.length_cons, List.length_nil, List.cons_append, List.nil_append, List.getElem?_cons_zero, List.getElem?_cons_succ, List.set_cons_zero, List.set_cons_succ, Res.get, Res.own, owns, gets, argsOf, lentS, backS, Ar.res, outsOf, Option.map_some, Option.bind_some, Bool.true_eq_false, Bool.false_eq_true, if_true, if_false, g_lst, g_tup, g_clst, g_ctup, s_lst, p_add, p_sub, p_mul, p_mod, p_fdiv, p_pow, p_neg, p_lt, p_le, p_gt, p_ge, p_eqI, p_neI, p_mulT, p_mulL, p_addT, p_addL, p_slT, p_slL, p_start, p_start3, p_end, p_lenT, p_abs, p_ii_max, p_ii_min, Res.norm, ix_0, ix_1, ix_2, ix_3, n3_0, n3_1, n3_2, List.replicate, decide_eq_true_eq, and_true, true_and, List.nodup_nil, List.nodup_cons, List.not_mem_nil, not_false_eq_true, gSet, fr_un, fr_sh, fr_ow, eq_self, gTupD, gsCons, gsNil, lp_nil, lp_cons, loop_nx, loop_rt, wi_any, wk_l, wk_t, wk_c, wi_r1, wi_r2, asI1, asI2, rng_2, rng_4, isL, isDi, ap_M, tu_l, tu_t, ld_l, ld_t, len_l, len_t, len_c, len_ct, int_b, int_i, wb_yes, we_comp, lc_nil, isTn, forD_sh, ws_forD, we_compD, compD_sh, ko_k, ko_t, we_dget, we_dget2, is_dk, is_dt, wi_enu, as_L, Bool.not_true, Bool.not_false, Bool.and_self, Int.reduceAdd, Int.reduceSub, Int.reduceMul, Int.reduceNeg, Int.reducePow, Int.reduceToNat, Nat.reduceLT, Int.reduceLT, Int.reduceLE, Nat.reduceAdd, Nat.reduceSub, Nat.reduceLeDiff, Nat.reduceEqDiff])
local macro_rules | `(tactic| walk_at "EL") => `(tactic| simp only [ws_raise, ws_try, ws_tryR, we_mtS, as_e, as_str, D.asI, wo_none, wo_some, we_slice, wp_exc, ws_seq, ws_if, ws_nil, ws_let, ws_set, ws_ret, ws_asg, ws_par, par_2, next_nx, ws_expr, ws_sub, ws_for, then_nx, then_rt, let_sh, let_ow, set_sh, set_ow, store_un, store_sh, store_ow, ret_sh, ret_ow, ret_al, back_sh, back_ow, own_ow, run_nx, run_rt, wb_val, bl_is, wb_and, wb_or, wb_not, ds_e, ds_l, ds_r, ds_lr, ds_u, ds_v, ds_U, ds_V, ds_uv, ds_uvUV, ds_mi, ds_n0, ds_n1, ds_co, ds_sl, ds_bl, ds_rr, ds_rrr, ds_ll, we_bin, we_chain, chain_b, we_un, we_if, we_and, we_or, we_not, we_name, slot_sh, slot_ow, we_share, share_sh, share_ow, we_c, we_tup, we_lst, we_callB, we_isT, we_call, we_mut, wl_nil, wl_cons, wp_bind, wp_ok, wp_opt, at_some, at_map, List.map_cons, List.map_nil, Ar.sl, List.length_cons, List.length_nil, List.cons_append, List.nil_append, List.getElem?_cons_zero, List.getElem?_cons_succ, List.set_cons_zero, List.set_cons_succ, Res.get, Res.own, owns, gets, argsOf, lentS, backS, Ar.res, outsOf, Option.map_some, Option.bind_some, Bool.true_eq_false, Bool.false_eq_true, if_true, if_false, g_lst, g_tup, g_clst, g_ctup, s_lst, p_add, p_sub, p_mul, p_mod, p_fdiv, p_pow, p_neg, p_lt, p_le, p_gt, p_ge, p_eqI, p_neI, p_mulT, p_mulL, p_addT, p_addL, p_slT, p_slL, p_start, p_start3, p_end, p_lenT, p_abs, p_ii_max, p_ii_min, Res.norm, ix_0, ix_1, ix_2, ix_3, n3_0, n3_1, n3_2, List.replicate, decide_eq_true_eq, and_true, true_and, List.nodup_nil, List.nodup_cons, List.not_mem_nil, not_false_eq_true, gSet, fr_un, fr_sh, fr_ow, eq_self, gTupD, gsCons, gsNil, loop_nx, loop_rt, wi_any, wk_l, wk_t, wk_c, wi_r1, wi_r2, asI1, asI2, rng_2, rng_4, isL, isDi, ap_M, tu_l, tu_t, ld_l, ld_t, len_l, len_t, len_c, len_ct, int_b, int_i, wb_yes, we_comp, isTn, forD_sh, ws_forD, we_compD, compD_sh, ko_k, ko_t, we_dget, we_dget2, is_dk, is_dt, wi_enu, as_L, Bool.not_true, Bool.not_false, Bool.and_self, Int.reduceAdd, Int.reduceSub, Int.reduceMul, Int.reduceNeg, Int.reducePow, Int.reduceToNat, Nat.reduceLT, Int.reduceLT, Int.reduceLE, Nat.reduceAdd, Nat.reduceSub, Nat.reduceLeDiff, Nat.reduceEqDiff])
local macro_rules | `(tactic| wide_open with [$xs,*]) => `(tactic| simp only [ws_raise, ws_try, ws_tryR, we_mtS, as_e, as_str, D.asI, wo_none, wo_some, we_slice, wp_exc, ws_seq, ws_if, ws_nil, ws_let, ws_set, ws_ret, ws_asg, ws_par, par_2, next_nx, ws_expr, ws_sub, ws_for, then_nx, then_rt, let_sh, let_ow, set_sh, set_ow, store_un, store_sh, store_ow, ret_sh, ret_ow, ret_al, back_sh, back_ow, own_ow, run_nx, run_rt, wb_val, bl_is, wb_and, wb_or, wb_not, ds_e, ds_l, ds_r, ds_lr, ds_u, ds_v, ds_U, ds_V, ds_uv, ds_uvUV, ds_mi, ds_n0, ds_n1, ds_co, ds_sl, ds_bl, ds_rr, ds_rrr, ds_ll, we_bin, we_chain, chain_b, we_un, we_if, we_and, we_or, we_not, we_name, slot_sh, slot_ow, we_share, share_sh, share_ow, we_c, we_tup, we_lst, we_callB, we_isT, we_call, we_mut, wl_nil, wl_cons, wp_bind, wp_ok, wp_opt, at_some, at_map, List.map_cons, List.map_nil, Ar.sl, List.length_cons, List.length_nil, List.cons_append, List.nil_append, List.getElem?_cons_zero, List.getElem?_cons_succ, List.set_cons_zero, List.set_cons_succ, Res.get, Res.own, owns, gets, argsOf, lentS, backS, Ar.res, outsOf, Option.map_some, Option.bind_some, Bool.true_eq_false, Bool.false_eq_true, if_true, if_false, g_lst, g_tup, g_clst, g_ctup, s_lst, p_add, p_sub, p_mul, p_mod, p_fdiv, p_pow, p_neg, p_lt, p_le, p_gt, p_ge, p_eqI, p_neI, p_mulT, p_mulL, p_addT, p_addL, p_slT, p_slL, p_start, p_start3, p_end, p_lenT, p_abs, p_ii_max, p_ii_min, Res.norm, ix_0, ix_1, ix_2, ix_3, n3_0, n3_1, n3_2, List.replicate, decide_eq_true_eq, and_true, true_and, List.nodup_nil, List.nodup_cons, List.not_mem_nil, not_false_eq_true, gSet, fr_un, fr_sh, fr_ow, eq_self, gTupD, gsCons, gsNil, lp_nil, lp_cons, loop_nx, loop_rt, wi_any, wk_l, wk_t, wk_c, wi_r1, wi_r2, asI1, asI2, rng_2, rng_4, isL, isDi, ap_M, tu_l, tu_t, ld_l, ld_t, len_l, len_t, len_c, len_ct, int_b, int_i, wb_yes, we_comp, lc_nil, isTn, forD_sh, ws_forD, we_compD, compD_sh, ko_k, ko_t, we_dget, we_dget2, is_dk, is_dt, wi_enu, as_L, Bool.not_true, Bool.not_false, Bool.and_self, Int.reduceAdd, Int.reduceSub, Int.reduceMul, Int.reduceNeg, Int.reducePow, Int.reduceToNat, Nat.reduceLT, Int.reduceLT, Int.reduceLE, Nat.reduceAdd, Nat.reduceSub, Nat.reduceLeDiff, Nat.reduceEqDiff, $[$xs:term],*])
local macro_rules | `(tactic| row_walk with [$xs,*]) => `(tactic| simp only [ws_raise, ws_try, ws_tryR, we_mtS, as_e, as_str, D.asI, wo_none, wo_some, we_slice, wp_exc, ws_seq, ws_if, ws_nil, ws_let, ws_set, ws_ret, ws_asg, ws_par, par_2, next_nx, ws_expr, ws_sub, ws_for, then_nx, then_rt, let_sh, let_ow, set_sh, set_ow, store_un, store_sh, store_ow, ret_sh, ret_ow, ret_al, back_sh, back_ow, own_ow, run_nx, run_rt, wb_val, bl_is, wb_and, wb_or, wb_not, ds_e, ds_l, ds_r, ds_lr, ds_u, ds_v, ds_U, ds_V, ds_uv, ds_uvUV, ds_mi, ds_n0, ds_n1, ds_co, ds_sl, ds_bl, ds_rr, ds_rrr, ds_ll, we_bin, we_chain, chain_b, we_un, we_if, we_and, we_or, we_not, we_name, slot_sh, slot_ow, we_share, share_sh, share_ow, we_c, we_tup, we_lst, we_callB, we_isT, we_call, we_mut, wl_nil, wl_cons, wp_bind, wp_ok, wp_opt, at_some, at_map, List.map_cons, List.map_nil, Ar.sl, List.length_cons, List.length_nil, List.cons_append, List.nil_append, List.getElem?_cons_zero, List.getElem?_cons_succ, List.set_cons_zero, List.set_cons_succ, Res.get, Res.own, owns, gets, argsOf, lentS, backS, Ar.res, outsOf, Option.map_some, Option.bind_some, Bool.true_eq_false, Bool.false_eq_true, if_true, if_false, g_lst, g_tup, g_clst, g_ctup, s_lst, p_add, p_sub, p_mul, p_mod, p_fdiv, p_pow, p_neg, p_lt, p_le, p_gt, p_ge, p_eqI, p_neI, p_mulT, p_mulL, p_addT, p_addL, p_slT, p_slL, p_start, p_start3, p_end, p_lenT, p_abs, p_ii_max, p_ii_min, Res.norm, ix_0, ix_1, ix_2, ix_3, n3_0, n3_1, n3_2, List.replicate, decide_eq_true_eq, and_true, true_and, List.nodup_nil, List.nodup_cons, List.not_mem_nil, not_false_eq_true, gSet, fr_un, fr_sh, fr_ow, eq_self, gTupD, gsCons, gsNil, loop_nx, loop_rt, wi_any, wk_l, wk_t, wk_c, wi_r1, wi_r2, asI1, asI2, rng_2, rng_4, isL, isDi, ap_M, tu_l, tu_t, ld_l, ld_t, len_l, len_t, len_c, len_ct, int_b, int_i, wb_yes, we_comp, isTn, forD_sh, ws_forD, we_compD, compD_sh, ko_k, ko_t, we_dget, we_dget2, is_dk, is_dt, wi_enu, as_L, Bool.not_true, Bool.not_false, Bool.and_self, Int.reduceAdd, Int.reduceSub, Int.reduceMul, Int.reduceNeg, Int.reducePow, Int.reduceToNat, Nat.reduceLT, Int.reduceLT, Int.reduceLE, Nat.reduceAdd, Nat.reduceSub, Nat.reduceLeDiff, Nat.reduceEqDiff, $[$xs:term],*])
theorem lr_at {i : Int} (h0 : 0 ≤ i) (h1 : i < 2) : ∃ c, (c = 108 ∨ c = 114) ∧ gixP (.str [108, 114]) (.int i) = some (.sh (.str [c])) := by
  have : i = 0 ∨ i = 1 := by omega
  rcases this with rfl | rfl
  · exact ⟨108, .inl rfl, rfl⟩
  · exact ⟨114, .inr rfl, rfl⟩
/-- single signs, of some kind, as one text -/
theorem sing_lr {ds : List D} {Pc : Nat → Prop} (h : ∀ d ∈ ds, ∃ c, d = .str [c] ∧ Pc c) : ∃ w : List Nat, w.length = ds.length ∧ (∀ c ∈ w, Pc c) ∧ strsD ds = some (w.map fun c => [c]) := by
  induction ds with
  | nil => exact ⟨[], rfl, fun _ h => absurd h List.not_mem_nil, rfl⟩
  | cons d r ih =>
    obtain ⟨w, h1, h2, h3⟩ := ih fun y hy => h y (List.mem_cons_of_mem _ hy)
    obtain ⟨c, rfl, hc⟩ := h d List.mem_cons_self
    refine ⟨c :: w, congrArg (· + 1) h1, fun x hx => (List.mem_cons.mp hx).elim (fun z => z ▸ hc) (h2 x), ?_⟩
    show (strsD r).map _ = _
    rw [h3]
    rfl
theorem mem_many {t : List Nat} {n : Int} {c : Nat} (h : c ∈ manyT t n) : c ∈ t := by
  unfold manyT at h
  obtain ⟨l, hl, hc⟩ := List.mem_flatten.mp h
  rw [List.eq_of_mem_replicate hl] at hc
  exact hc
theorem len_many (t : List Nat) (n : Int) : (manyT t n).length = t.length * n.toNat := by
  unfold manyT
  rw [List.length_flatten, List.map_replicate, List.sum_replicate_nat, Nat.mul_comm]
theorem LR.many {t : List Nat} (h : LR t) (n : Int) : LR (manyT t n) := h.sub fun _ hc => mem_many hc
theorem gix_str {t : List Nat} {i : Int} (hl : t.length ≤ 1000000) : gixP (.str t) (.int i) = (atI t i).map fun c => .sh (.str [c]) := by
  show (if t.length ≤ 1000000 then (atI t i).map fun c => D.str [c] else none).map Res.sh = _
  rw [if_pos hl, Option.map_map]
  rfl
theorem piece_ok {a b m most : Int} (g : Good a b m) (h0 : 0 < most) (h1 : most ≤ 1000) : Wp N0 (f_law_piece [.ow (dr a b m), .sh (.int most)]) fun p => ∃ w a' b', LR w ∧ 1 ≤ w.length ∧ (w.length : Int) ≤ most ∧ Good a' b' m ∧ p = (.sh (.str w), [.ow (dr a' b' m), .sh (.int most)]) := by
  unfold f_law_piece c_law_piece
  rw [wp_run]
  walk_at "EV"
  refine (draw_ok g (by decide) (by decide)).mono ?_
  rintro _ ⟨way, a1, b1, y0, y1, g1, rfl⟩
  walk_at "EV"
  refine (draw_ok g1 h0 (by omega)).mono ?_
  rintro _ ⟨r, a2, b2, r0, r1, g2, rfl⟩
  walk_at "EV"
  refine ⟨by omega, ⟨rfl, by rw [rng_len]; omega⟩, ?_⟩
  refine (lc_draw (j := 6) (m := m) (ρf := fun a b => [.ow true (dr a b m), .sh (.int most), .sh (.int way), .sh (.int (1 + r)), .un, .un, .un]) (fun d => ∃ c, d = .str [c] ∧ (c = 108 ∨ c = 114)) (fun a b d g => ?_) _ a2 b2 g2).mono ?_
  · walk_at "EV"
    refine (draw_ok g (by decide) (by decide)).mono ?_
    rintro _ ⟨q, a3, b3, q0, q1, g3, rfl⟩
    obtain ⟨c, hc, ec⟩ := lr_at q0 q1
    wide_open with [ec]
    exact ⟨_, a3, b3, rfl, ⟨c, rfl, hc⟩, g3, rfl⟩
  · rintro ⟨ds, ρ⟩ ⟨hl, hd, a3, b3, g3, rfl⟩
    obtain ⟨w, w1, w2, w3⟩ := sing_lr hd
    have hlen : (w.length : Int) = 1 + r := by
      rw [w1]
      have := hl.trans rng_len
      omega
    have hw : LR w := w2
    have hw0 : 0 < w.length := by omega
    wide_open with [join_w w3 (by omega)]
    obtain ⟨c, hc, hc2⟩ := ati_nat (xs := w) (i := 0) (by decide) (by omega)
    have hcm : LR [c] := fun x hx => by
      rw [List.mem_singleton.mp hx]
      exact hw c (List.mem_of_getElem? hc)
    wide_open with [gix_str (show w.length ≤ 1000000 by omega), hc2]
    have ht2 : LR (cutD w none (some 2)) := by rw [cut_to (by decide)]; exact hw.take _
    have hl2 : (cutD w none (some 2)).length ≤ 2 := by rw [cut_to (by decide), List.length_take]; omega
    refine ⟨⟨by omega, by omega, by omega⟩, ⟨by omega, by omega, by omega⟩, by rw [len_many]; simp only [List.length_cons, List.length_nil]; omega, by omega, ⟨by omega, ?_, by omega⟩, ?_, ?_⟩
    · exact Nat.le_trans (Nat.mul_le_mul_right _ hl2) (by omega)
    · rw [len_many]
      exact Nat.le_trans (Nat.mul_le_mul_right _ hl2) (by omega)
    · have hc2' : manyT [c] (1 + r) ≠ [] := fun z => by
        have := congrArg List.length z
        rw [len_many] at this
        simp only [List.length_cons, List.length_nil] at this
        omega
      have key : ∀ d ∈ [D.str w, .str (manyT [c] (1 + r)), .str (cutD (manyT [108, 114] (1 + r)) none (some (1 + r))), .str (cutD (manyT (cutD w none (some 2)) (1 + r)) none (some (1 + r)))], ∃ v, d = .str v ∧ LR v ∧ 1 ≤ v.length ∧ (v.length : Int) ≤ most := by
        have h2pos : 0 < (cutD w none (some 2)).length := by rw [cut_to (by decide), List.length_take]; omega
        intro d hd
        simp only [List.mem_cons, List.not_mem_nil, or_false] at hd
        rcases hd with rfl | rfl | rfl | rfl
        · exact ⟨_, rfl, hw, hw0, by omega⟩
        · exact ⟨_, rfl, hcm.many _, by rw [len_many]; simp only [List.length_cons, List.length_nil]; omega, by rw [len_many]; simp only [List.length_cons, List.length_nil]; omega⟩
        · have hlr : LR [108, 114] := fun x hx => by simpa using hx
          refine ⟨_, rfl, by rw [cut_to (by omega)]; exact (hlr.many _).take _, ?_, ?_⟩
          · rw [cut_to (by omega), List.length_take, len_many]; simp only [List.length_cons, List.length_nil]; omega
          · rw [cut_to (by omega), List.length_take, len_many]; simp only [List.length_cons, List.length_nil]; omega
        · have hle : (1 + r).toNat ≤ (cutD w none (some 2)).length * (1 + r).toNat := Nat.le_mul_of_pos_left _ h2pos
          refine ⟨_, rfl, by rw [cut_to (by omega)]; exact (ht2.many _).take _, ?_, ?_⟩
          · rw [cut_to (by omega), List.length_take, len_many]; omega
          · rw [cut_to (by omega), List.length_take, len_many]; omega
      obtain ⟨d, e, v, rfl, v1, v2, v3⟩ := at_all (i := way) _ y0 (by simp only [List.length_cons, List.length_nil]; omega) key
      rw [e]
      walk_at "EV"
      exact ⟨v, a3, b3, v1, v2, v3, g3, rfl⟩
theorem ok_lr {w : List Nat} (h : LR w) (n : Nat) : okD n (.str w) = true := by
  have : w.all (· < 0x110000) = true := List.all_eq_true.mpr fun c hc => by rcases h c hc with rfl | rfl <;> decide
  cases n <;> exact this
theorem ok_encW {ws : List (List Nat)} (h : ∀ w ∈ ws, LR w) (n : Nat) : okD (n + 1) (encW ws) = true := by
  show okDs n (ws.map D.str) = true
  exact okDs_map fun w hw => ok_lr (h w hw) n
theorem deq_nil (xs : List D) : deq (.lst xs) (.lst []) = decide (xs = []) := by cases xs <;> simp [deq, deqs]
theorem ne_nilW {ws : List (List Nat)} (h : ∀ w ∈ ws, LR w) : neP (encW ws) (.lst []) = some (.sh (.bl (!decide (ws = [])))) := by
  rw [p_ne (ok_encW h 59) rfl, deq_nil]
  congr 4
  simp
/-- makers that are drawn -/
theorem makers_ok {a b m : Int} (g : Good a b m) : Wp N0 (f_law_makers [.ow (dr a b m)]) fun p => ∃ ws a' b', Mks ws ∧ Good a' b' m ∧ p = (.ow (encW ws), [.ow (dr a' b' m)]) := by
  unfold f_law_makers c_law_makers
  rw [wp_run]
  walk_at "EV"
  refine (draw_ok g (by decide) (by decide)).mono ?_
  rintro _ ⟨r1, a1, b1, y0, y1, g1, rfl⟩
  walk_at "EV"
  refine (draw_ok g1 (by decide) (by decide)).mono ?_
  rintro _ ⟨r2, a2, b2, z0, z1, g2, rfl⟩
  walk_at "EV"
  obtain ⟨d, e, many, rfl, m0, m1⟩ := at_all (xs := [D.int (1 + r1), .int 2, .int 3]) (i := r2) (fun d => ∃ n : Int, d = .int n ∧ 1 ≤ n ∧ n ≤ 8) z0 (by simp only [List.length_cons, List.length_nil]; omega) (by
    intro d hd
    simp only [List.mem_cons, List.not_mem_nil, or_false] at hd
    rcases hd with rfl | rfl | rfl <;> exact ⟨_, rfl, by omega, by omega⟩)
  rw [e]
  walk_at "EV"
  refine (draw_ok g2 (by decide) (by decide)).mono ?_
  rintro _ ⟨r3, a3, b3, q0, q1, g3, rfl⟩
  walk_at "EV"
  obtain ⟨d, e, most, rfl, t0, t1⟩ := at_all (xs := [D.int 3, .int 6, .int 20, .int 40]) (i := r3) (fun d => ∃ n : Int, d = .int n ∧ 1 ≤ n ∧ n ≤ 40) q0 (by simp only [List.length_cons, List.length_nil]; omega) (by
    intro d hd
    simp only [List.mem_cons, List.not_mem_nil, or_false] at hd
    rcases hd with rfl | rfl | rfl | rfl <;> exact ⟨_, rfl, by omega, by omega⟩)
  rw [e]
  walk_at "EL"
  refine ⟨by omega, ?_⟩
  refine wp_loop (fun ds ρ => ∃ ws a b s4 s5 s6 s7 s8, (∀ w ∈ ws, Mk w) ∧ ws.length + ds.length = many.toNat ∧ Good a b m ∧ (Sl.free s4 = true ∧ Sl.free s5 = true ∧ Sl.free s6 = true ∧ Sl.free s7 = true ∧ Sl.free s8 = true) ∧ ρ = [.ow true (dr a b m), .ow false (encW ws), .sh (.int many), .sh (.int most), s4, s5, s6, s7, s8]) ?_ ?_ _ _ ⟨[], a3, b3, .un, .un, .un, .un, .un, fun _ h => absurd h List.not_mem_nil, by rw [rng_len]; simp, g3, ⟨rfl, rfl, rfl, rfl, rfl⟩, rfl⟩
  · rintro ρ ⟨ws, a, b, s4, s5, s6, s7, s8, hw, hl, g, _, rfl⟩
    walk_at "EL"
    refine ⟨ws, a, b, ⟨?_, ?_, hw⟩, g, rfl⟩
    · simp only [List.length_nil] at hl; omega
    · simp only [List.length_nil] at hl; omega
  · rintro d ds ρ ⟨ws, a, b, s4, s5, s6, s7, s8, hw, hl, g, ⟨f4, f5, f6, f7, f8⟩, rfl⟩
    refine ⟨_, if_pos f4, ?_⟩
    walk_at "EL"
    refine (piece_ok g t0 (by omega)).mono ?_
    rintro _ ⟨w, a4, b4, w1, w2, w3, g4, rfl⟩
    row_walk with [store_gen f5, ne_nilW fun w hw' => (hw w hw').lr]
    have fin : ∀ (v : List Nat) (a b : Int) (s6 s7 s8 : Sl), LR v → 1 ≤ v.length → v.length ≤ 100000 → Good a b m → s6.free = true → s7.free = true → s8.free = true → v.length ≤ 1000000 ∧ (ws.map D.str).length < 1000000 ∧
        ∃ ws_1 a_1 b_1 s4 s5 s6_1 s7_1 s8_1, (∀ w ∈ ws_1, Mk w) ∧ ws_1.length + ds.length = many.toNat ∧ Good a_1 b_1 m ∧ (Sl.free s4 = true ∧ Sl.free s5 = true ∧ Sl.free s6_1 = true ∧ Sl.free s7_1 = true ∧ Sl.free s8_1 = true) ∧
          ([.ow true (dr a b m), .ow false (.lst (ws.map D.str ++ [.str (cutD v none (some 40))])), .sh (.int many), .sh (.int most), .sh d, .sh (.str v), s6, s7, s8] : EnvQ) = [.ow true (dr a_1 b_1 m), .ow false (encW ws_1), .sh (.int many), .sh (.int most), s4, s5, s6_1, s7_1, s8_1] := by
      intro v a b s6 s7 s8 hv v1 v2 g f6 f7 f8
      rw [List.length_cons] at hl
      rw [cut_to (show (0 : Int) ≤ 40 by decide), List.length_map]
      refine ⟨by omega, by omega, ws ++ [v.take (Int.toNat 40)], a, b, .sh d, .sh (.str v), s6, s7, s8, ?_, ?_, g, ⟨rfl, rfl, f6, f7, f8⟩, ?_⟩
      · intro x hx
        rcases List.mem_append.mp hx with hx | hx
        · exact hw x hx
        · rw [List.mem_singleton.mp hx]
          exact ⟨hv.take _, by rw [List.length_take]; show 1 ≤ min 40 v.length; omega, by rw [List.length_take]; show min 40 v.length ≤ 40; omega⟩
      · rw [List.length_append, List.length_cons, List.length_nil]
        omega
      · unfold encW
        rw [List.map_append]
        rfl
    by_cases hws : ws = []
    · rw [decide_eq_true hws]
      walk_at "EL"
      exact fin w a4 b4 s6 s7 s8 w1 w2 (by omega) g4 f6 f7 f8
    · rw [decide_eq_false hws]
      have hpos : 0 < ws.length := List.length_pos_iff.mpr hws
      have hlen : ws.length ≤ 8 := by rw [List.length_cons] at hl; omega
      row_walk with [List.length_map]
      refine (draw_ok g4 (n := ws.length) (by omega) (by omega)).mono ?_
      rintro _ ⟨k1, a5, b5, u0, u1, g5, rfl⟩
      obtain ⟨v, hv, ev⟩ := ati_nat (xs := ws) u0 u1
      have mv := hw v (List.mem_of_getElem? hv)
      row_walk with [ati_map, ev, store_gen f6, List.length_map]
      refine (draw_ok g5 (n := ws.length) (by omega) (by omega)).mono ?_
      rintro _ ⟨k2, a6, b6, p0, p1, g6, rfl⟩
      obtain ⟨u, hu, eu⟩ := ati_nat (xs := ws) p0 p1
      have mu := hw u (List.mem_of_getElem? hu)
      row_walk with [ati_map, eu, store_gen f7]
      refine (draw_ok g6 (by decide) (by decide)).mono ?_
      rintro _ ⟨k3, a7, b7, x0, x1, g7, rfl⟩
      row_walk with [store_gen f8]
      have hv2 := mv.most; have hu2 := mu.most; have hv1 := mv.one
      split
      · refine ⟨by omega, by omega, by omega, ?_⟩
        obtain ⟨dd, e, x, rfl, e1, e2, e3⟩ := at_all (xs := [D.str (v ++ u), .str (v ++ w), .str (w ++ v), .str v]) (i := k3) (fun d => ∃ x, d = .str x ∧ LR x ∧ 1 ≤ x.length ∧ x.length ≤ 100000) x0 (by simp only [List.length_cons, List.length_nil]; omega) (by
          intro d hd
          simp only [List.mem_cons, List.not_mem_nil, or_false] at hd
          rcases hd with rfl | rfl | rfl | rfl
          · exact ⟨_, rfl, mv.lr.app mu.lr, by rw [List.length_append]; omega, by rw [List.length_append]; omega⟩
          · exact ⟨_, rfl, mv.lr.app w1, by rw [List.length_append]; omega, by rw [List.length_append]; omega⟩
          · exact ⟨_, rfl, w1.app mv.lr, by rw [List.length_append]; omega, by rw [List.length_append]; omega⟩
          · exact ⟨_, rfl, mv.lr, by omega, by omega⟩)
        rw [e]
        walk_at "EL"
        exact fin x a7 b7 _ _ _ e1 e2 e3 g7 rfl rfl rfl
      · exact fin w a7 b7 _ _ _ w1 w2 (by omega) g7 rfl rfl rfl
end QL

end
section
/-! rows of makers: plain Lean -/
namespace QL
open PySem PySem.Spec L2 QW
theorem stands_pre {t w : List Nat} {i : Nat} (hi : i ≤ t.length) : stands t w i = w.isPrefixOf (t.drop i) := by
  unfold stands
  rw [Bool.eq_iff_iff, List.isPrefixOf_iff_prefix, Bool.and_eq_true, decide_eq_true_eq, decide_eq_true_eq]
  constructor
  · rintro ⟨h, _⟩
    rw [← h]
    exact List.take_prefix _ _
  · intro h
    refine ⟨(List.prefix_iff_eq_take.mp h).symm, ?_⟩
    have := h.length_le
    rw [List.length_drop] at this
    omega
/-- the better one of a number so far and a new one -/
def better (a : Option Nat) (k : Nat) : Option Nat := match a with
  | none => some k
  | some b => if k < b then some k else some b
/-- from the rests behind: one word more looked at -/
def stepW (t : List Nat) (r : List (Option Nat × Nat)) (acc : Option Nat × Nat) (w : List Nat) : Option Nat × Nat :=
  if w.isPrefixOf t = true then
    match r[w.length - 1]? with
    | some (some k, m) => (better acc.1 (k + 1), acc.2 + m)
    | some (none, m) => (acc.1, acc.2 + m)
    | none => acc
  else acc
def stepR (ws : List (List Nat)) (t : List Nat) (r : List (Option Nat × Nat)) : Option Nat × Nat := ws.foldl (stepW t r) (none, 0)
/-- for each place of a text: the fewest words to the end, and in how many rows -/
def rests (ws : List (List Nat)) : List Nat → List (Option Nat × Nat)
  | [] => [(some 0, 1)]
  | c :: t => stepR ws (c :: t) (rests ws t) :: rests ws t
theorem rests_len (ws : List (List Nat)) : ∀ t, (rests ws t).length = t.length + 1
  | [] => rfl
  | c :: t => by
    show (rests ws t).length + 1 = _
    rw [rests_len ws t]
    rfl
theorem rests_drop (ws : List (List Nat)) : ∀ (t : List Nat) (k : Nat), k ≤ t.length → (rests ws t).drop k = rests ws (t.drop k)
  | t, 0, _ => rfl
  | [], k + 1, h => absurd h (by simp)
  | c :: t, k + 1, h => by
    show (rests ws t).drop k = rests ws (t.drop k)
    exact rests_drop ws t k (by simpa using h)
/-- of a text -/
def restT (ws : List (List Nat)) (t : List Nat) : Option Nat × Nat := (rests ws t).headD (none, 0)
theorem rests_at (ws : List (List Nat)) (t : List Nat) (k : Nat) (h : k ≤ t.length) : (rests ws t)[k]? = some (restT ws (t.drop k)) := by
  have e := rests_drop ws t k h
  rw [← List.head?_drop, e]
  unfold restT
  have : (rests ws (t.drop k)).length ≠ 0 := by rw [rests_len]; omega
  cases q : rests ws (t.drop k) with
  | nil => rw [q] at this; exact absurd rfl this
  | cons x r => rfl
theorem restT_nil (ws : List (List Nat)) : restT ws [] = (some 0, 1) := rfl
theorem restT_cons (ws : List (List Nat)) (c : Nat) (t : List Nat) : restT ws (c :: t) = ws.foldl (stepW (c :: t) (rests ws t)) (none, 0) := rfl
/-- how many rows: a sum over the words with which the text begins -/
theorem cnt_fold (t : List Nat) (r : List (Option Nat × Nat)) : ∀ (ws : List (List Nat)) (acc : Option Nat × Nat), (ws.foldl (stepW t r) acc).2 = acc.2 + (ws.map fun w => if w.isPrefixOf t = true then ((r[w.length - 1]?).map (·.2)).getD 0 else 0).sum
  | [], acc => by simp
  | w :: ws, acc => by
    rw [List.foldl_cons, cnt_fold t r ws, List.map_cons, List.sum_cons]
    unfold stepW
    split
    · cases q : r[w.length - 1]? with
      | none => simp
      | some x =>
        obtain ⟨o, m⟩ := x
        cases o <;> simp <;> omega
    · simp
/-- how many rows make a text -/
def cnt (ws : List (List Nat)) (t : List Nat) : Nat := (restT ws t).2
theorem cnt_nil (ws : List (List Nat)) : cnt ws [] = 1 := rfl
theorem cnt_cons {ws : List (List Nat)} (hw : ∀ w ∈ ws, w ≠ []) (c : Nat) (t : List Nat) : cnt ws (c :: t) = (ws.map fun w => if w.isPrefixOf (c :: t) = true then cnt ws ((c :: t).drop w.length) else 0).sum := by
  unfold cnt
  rw [restT_cons, cnt_fold, Nat.zero_add]
  congr 1
  refine List.map_congr_left fun w h => ?_
  split
  · rename_i hp
    have hl := (List.isPrefixOf_iff_prefix.mp hp).length_le
    have h0 : 0 < w.length := List.length_pos_iff.mpr (hw w h)
    rw [List.length_cons] at hl
    rw [rests_at ws t (w.length - 1) (by omega)]
    have : (c :: t).drop w.length = t.drop (w.length - 1) := by
      rw [show w.length = (w.length - 1) + 1 by omega]
      rfl
    rw [this]
    rfl
  · rfl
/-! how many rows make texts of so many letters -/
def rowsL (ws : List (List Nat)) : Nat → List Nat
  | 0 => [1]
  | n + 1 => rowsL ws n ++ [((ws.filter fun w => decide (w.length ≤ n + 1)).map fun w => (rowsL ws n).getD (n + 1 - w.length) 0).sum]
theorem rowsL_len (ws : List (List Nat)) : ∀ n, (rowsL ws n).length = n + 1
  | 0 => rfl
  | n + 1 => by simp [rowsL, rowsL_len ws n]
def rowsN (ws : List (List Nat)) (n : Nat) : Nat := (rowsL ws n).getD n 0
theorem rowsL_get (ws : List (List Nat)) : ∀ (n k : Nat), k ≤ n → (rowsL ws n)[k]? = some (rowsN ws k)
  | 0, k, h => by
    have : k = 0 := by omega
    subst this
    rfl
  | n + 1, k, h => by
    by_cases z : k = n + 1
    · subst z
      unfold rowsN
      rw [List.getD_eq_getElem?_getD, List.getElem?_eq_getElem (by rw [rowsL_len]; omega)]
      rfl
    · have e : (rowsL ws (n + 1))[k]? = (rowsL ws n)[k]? := by
        rw [rowsL, List.getElem?_append_left (by rw [rowsL_len]; omega)]
      rw [e]
      exact rowsL_get ws n k (by omega)
theorem rowsN_zero (ws : List (List Nat)) : rowsN ws 0 = 1 := rfl
theorem rowsN_succ {ws : List (List Nat)} (hw : ∀ w ∈ ws, w ≠ []) (n : Nat) : rowsN ws (n + 1) = (ws.map fun w => if w.length ≤ n + 1 then rowsN ws (n + 1 - w.length) else 0).sum := by
  unfold rowsN
  rw [List.getD_eq_getElem?_getD]
  have e : (rowsL ws (n + 1))[n + 1]? = some ((ws.filter fun w => decide (w.length ≤ n + 1)).map fun w => (rowsL ws n).getD (n + 1 - w.length) 0).sum := by
    rw [rowsL, List.getElem?_append_right (by rw [rowsL_len]; omega), rowsL_len]
    simp
  rw [e]
  show List.sum _ = _
  have aux : ∀ vs : List (List Nat), (∀ w ∈ vs, w ≠ []) → ((vs.filter fun w => decide (w.length ≤ n + 1)).map fun w => (rowsL ws n).getD (n + 1 - w.length) 0).sum = (vs.map fun w => if w.length ≤ n + 1 then (rowsL ws (n + 1 - w.length)).getD (n + 1 - w.length) 0 else 0).sum := by
    intro vs
    induction vs with
    | nil => intro _; rfl
    | cons w vs ih =>
      intro h
      have h0 : 0 < w.length := List.length_pos_iff.mpr (h w List.mem_cons_self)
      rw [List.map_cons, List.sum_cons, ← ih fun x hx => h x (List.mem_cons_of_mem _ hx)]
      by_cases z : w.length ≤ n + 1
      · rw [List.filter_cons_of_pos (by simpa using z), List.map_cons, List.sum_cons, if_pos z]
        congr 1
        rw [List.getD_eq_getElem?_getD, rowsL_get ws n _ (by omega)]
        rfl
      · rw [List.filter_cons_of_neg (by simpa using z), if_neg z, Nat.zero_add]
  exact aux ws hw
/-! all texts of so many letters -/
def sumA (f : List Nat → Nat) : Nat → Nat
  | 0 => f []
  | n + 1 => sumA (fun t => f (108 :: t)) n + sumA (fun t => f (114 :: t)) n
theorem sumA_add : ∀ (n : Nat) (f g : List Nat → Nat), sumA (fun t => f t + g t) n = sumA f n + sumA g n
  | 0, f, g => rfl
  | n + 1, f, g => by
    show sumA _ n + sumA _ n = _
    rw [sumA_add n, sumA_add n]
    show _ = sumA _ n + sumA _ n + (sumA _ n + sumA _ n)
    omega
theorem sumA_zero : ∀ n : Nat, sumA (fun _ => 0) n = 0
  | 0 => rfl
  | n + 1 => by
    show sumA _ n + sumA _ n = 0
    rw [sumA_zero n]
theorem sumA_congr : ∀ (n : Nat) {f g : List Nat → Nat}, (∀ t, LR t → t.length = n → f t = g t) → sumA f n = sumA g n
  | 0, f, g, h => h [] LR.nil rfl
  | n + 1, f, g, h => by
    show sumA _ n + sumA _ n = sumA _ n + sumA _ n
    rw [sumA_congr n fun t ht hl => h (108 :: t) (ht.cons (.inl rfl)) (by rw [List.length_cons, hl]), sumA_congr n fun t ht hl => h (114 :: t) (ht.cons (.inr rfl)) (by rw [List.length_cons, hl])]
theorem sumA_list : ∀ (ws : List (List Nat)) (n : Nat) (F : List Nat → List Nat → Nat), sumA (fun t => (ws.map fun w => F w t).sum) n = (ws.map fun w => sumA (F w) n).sum
  | [], n, F => sumA_zero n
  | w :: ws, n, F => by
    show sumA (fun t => F w t + (ws.map fun w => F w t).sum) n = _
    rw [sumA_add, sumA_list ws n F]
    rfl
theorem sumA_pre : ∀ (w : List Nat) (n : Nat) (f : List Nat → Nat), LR w → sumA (fun t => if w.isPrefixOf t = true then f (t.drop w.length) else 0) n = if w.length ≤ n then sumA f (n - w.length) else 0
  | [], n, f, _ => by
    rw [if_pos (show ([] : List Nat).length ≤ n from Nat.zero_le _)]
    exact sumA_congr n fun t _ _ => by simp
  | c :: w, 0, f, _ => by simp [sumA]
  | c :: w, n + 1, f, h => by
    have ih := sumA_pre w n f h.tail
    have e : ∀ d : Nat, sumA (fun t => if (c :: w).isPrefixOf (d :: t) = true then f ((d :: t).drop (c :: w).length) else 0) n = if c = d then (if w.length ≤ n then sumA f (n - w.length) else 0) else 0 := by
      intro d
      by_cases z : c = d
      · subst z
        rw [if_pos rfl, ← ih]
        exact sumA_congr n fun t _ _ => by simp [List.isPrefixOf]
      · rw [if_neg z]
        refine Eq.trans (sumA_congr n fun t _ _ => ?_) (sumA_zero n)
        simp [List.isPrefixOf, z]
    show sumA _ n + sumA _ n = _
    rw [e 108, e 114, List.length_cons, show n + 1 - (w.length + 1) = n - w.length by omega]
    rcases h c List.mem_cons_self with rfl | rfl
    · by_cases z : w.length ≤ n
      · rw [if_pos rfl, if_pos z, if_neg (by decide), if_pos (by omega), Nat.add_zero]
      · rw [if_pos rfl, if_neg z, if_neg (by decide), if_neg (by omega)]
    · by_cases z : w.length ≤ n
      · rw [if_neg (by decide), if_pos rfl, if_pos z, if_pos (by omega), Nat.zero_add]
      · rw [if_neg (by decide), if_pos rfl, if_neg z, if_neg (by omega)]
/-- all texts of n letters have as many rows as are counted -/
theorem sum_cnt {ws : List (List Nat)} (hw : ∀ w ∈ ws, w ≠ [] ∧ LR w) : ∀ (k n : Nat), n ≤ k → sumA (cnt ws) n = rowsN ws n
  | _, 0, _ => rfl
  | 0, n + 1, h => absurd h (by omega)
  | k + 1, n + 1, h => by
    have hw' : ∀ w ∈ ws, w ≠ [] := fun w h => (hw w h).1
    have e : sumA (cnt ws) (n + 1) = sumA (fun t => (ws.map fun w => if w.isPrefixOf t = true then cnt ws (t.drop w.length) else 0).sum) (n + 1) := by
      refine sumA_congr (n + 1) fun t _ hl => ?_
      cases t with
      | nil => simp at hl
      | cons c t => exact cnt_cons hw' c t
    rw [e, sumA_list, rowsN_succ hw']
    congr 1
    refine List.map_congr_left fun w h' => ?_
    rw [sumA_pre w (n + 1) (cnt ws) (hw w h').2]
    have h0 : 0 < w.length := List.length_pos_iff.mpr (hw' w h')
    split
    · exact sum_cnt hw k _ (by omega)
    · rfl
/-- letters put behind -/
theorem sumA_snoc : ∀ (n : Nat) (f : List Nat → Nat), sumA (fun t => f (t ++ [108]) + f (t ++ [114])) n = sumA (fun t => f (108 :: t) + f (114 :: t)) n
  | 0, f => rfl
  | n + 1, f => by
    show sumA (fun t => f (108 :: (t ++ [108])) + f (108 :: (t ++ [114]))) n + sumA (fun t => f (114 :: (t ++ [108])) + f (114 :: (t ++ [114]))) n = _
    rw [sumA_snoc n fun t => f (108 :: t), sumA_snoc n fun t => f (114 :: t)]
    show _ = sumA _ n + sumA _ n
    rw [sumA_add, sumA_add, sumA_add, sumA_add]
    omega
def appT : Nat → List (List Nat)
  | 0 => [[]]
  | n + 1 => ((appT n).map fun t => t ++ [108]) ++ ((appT n).map fun t => t ++ [114])
theorem sum_appT : ∀ (n : Nat) (f : List Nat → Nat), ((appT n).map f).sum = sumA f n
  | 0, f => by simp [appT, sumA]
  | n + 1, f => by
    rw [appT, List.map_append, List.sum_append, List.map_map, List.map_map]
    have h1 := sum_appT n (f ∘ fun t => t ++ [108])
    have h2 := sum_appT n (f ∘ fun t => t ++ [114])
    rw [h1, h2]
    show _ = sumA _ n + sumA _ n
    rw [← sumA_add, ← sumA_add]
    exact sumA_snoc n f
theorem appT_lr : ∀ (n : Nat), ∀ t ∈ appT n, LR t ∧ t.length = n
  | 0, t, h => by
    have : t = [] := by simpa [appT] using h
    subst this
    exact ⟨LR.nil, rfl⟩
  | n + 1, t, h => by
    rw [appT] at h
    rcases List.mem_append.mp h with h | h
    · obtain ⟨u, hu, rfl⟩ := List.mem_map.mp h
      obtain ⟨h1, h2⟩ := appT_lr n u hu
      exact ⟨h1.app (LR.nil.cons (.inl rfl)), by rw [List.length_append, h2]; rfl⟩
    · obtain ⟨u, hu, rfl⟩ := List.mem_map.mp h
      obtain ⟨h1, h2⟩ := appT_lr n u hu
      exact ⟨h1.app (LR.nil.cons (.inr rfl)), by rw [List.length_append, h2]; rfl⟩
theorem appT_len : ∀ n, (appT n).length = 2 ^ n
  | 0 => rfl
  | n + 1 => by rw [appT, List.length_append, List.length_map, List.length_map, appT_len n, Nat.pow_succ]; omega
theorem sum_texts {ws : List (List Nat)} (hw : ∀ w ∈ ws, w ≠ [] ∧ LR w) (n : Nat) : ((appT n).map (cnt ws)).sum = rowsN ws n := by
  rw [sum_appT]
  exact sum_cnt hw n n (Nat.le_refl _)
end QL

end
section
set_option maxHeartbeats 1000000
/-! rows by their lengths; from the end; the least row: plain Lean -/
namespace QL
open PySem PySem.Spec L2 QW
/-- how many rows of L words make a text -/
def cntL (ws : List (List Nat)) : Nat → List Nat → Nat
  | 0, t => if t = [] then 1 else 0
  | L + 1, t => (ws.map fun w => if w.isPrefixOf t = true then cntL ws L (t.drop w.length) else 0).sum
def IsBest (o : Option Nat) (f : Nat → Nat) : Prop := match o with
  | some b => 0 < f b ∧ ∀ L, L < b → f L = 0
  | none => ∀ L, f L = 0
theorem IsBest.uniq {o p : Option Nat} {f : Nat → Nat} (h : IsBest o f) (g : IsBest p f) : o = p := by
  cases o with
  | none =>
    cases p with
    | none => rfl
    | some b => have := h b; have := g.1; omega
  | some a =>
    cases p with
    | none => have := g a; have := h.1; omega
    | some b =>
      have h1 := h.1; have g1 := g.1
      have h2 : ¬ b < a := fun z => by have := h.2 b z; omega
      have g2 : ¬ a < b := fun z => by have := g.2 a z; omega
      congr 1
      omega
theorem IsBest.congr {o : Option Nat} {f g : Nat → Nat} (h : IsBest o f) (e : ∀ L, f L = g L) : IsBest o g := by
  rw [← show f = g from funext e]
  exact h
def addO (a o : Option Nat) : Option Nat := match o with
  | some k => better a (k + 1)
  | none => a
def behind (g : Nat → Nat) : Nat → Nat
  | 0 => 0
  | L + 1 => g L
theorem IsBest.add {a o : Option Nat} {f g : Nat → Nat} (h : IsBest a f) (k : IsBest o g) : IsBest (addO a o) (fun L => f L + behind g L) := by
  cases o with
  | none =>
    refine h.congr fun L => ?_
    cases L with
    | zero => rfl
    | succ L => show f (L + 1) = f (L + 1) + g L; rw [k L]; rfl
  | some b =>
    have k1 := k.1; have k2 := k.2
    have up : ∀ L, L < b + 1 → behind g L = 0 := fun L hL => by
      cases L with
      | zero => rfl
      | succ L => exact k2 L (by omega)
    cases a with
    | none =>
      refine ⟨?_, fun L hL => ?_⟩
      · show 0 < f (b + 1) + g b; omega
      · show f L + behind g L = 0; rw [h L, up L hL]
    | some c =>
      have h1 := h.1; have h2 := h.2
      show IsBest (if b + 1 < c then some (b + 1) else some c) _
      by_cases z : b + 1 < c
      · rw [if_pos z]
        refine ⟨?_, fun L hL => ?_⟩
        · show 0 < f (b + 1) + g b; omega
        · show f L + behind g L = 0; rw [h2 L (by omega), up L hL]
      · rw [if_neg z]
        refine ⟨?_, fun L hL => ?_⟩
        · show 0 < f c + behind g c; omega
        · show f L + behind g L = 0; rw [h2 L hL, up L (by omega)]
theorem stepW_at {t w : List Nat} {r : List (Option Nat × Nat)} {acc : Option Nat × Nat} {o : Option Nat} {m : Nat} (hp : w.isPrefixOf t = true) (hx : r[w.length - 1]? = some (o, m)) : stepW t r acc w = (addO acc.1 o, acc.2 + m) := by
  unfold stepW
  rw [if_pos hp, hx]
  cases o <;> rfl
theorem fold_best {ws0 : List (List Nat)} {c : Nat} {t : List Nat} (hb : ∀ u : List Nat, u.length ≤ t.length → IsBest (restT ws0 u).1 fun L => cntL ws0 L u) : ∀ (ws : List (List Nat)), (∀ w ∈ ws, w ≠ []) → ∀ (acc : Option Nat × Nat) (f : Nat → Nat), IsBest acc.1 f →
    IsBest (ws.foldl (stepW (c :: t) (rests ws0 t)) acc).1 fun L => f L + behind (fun L => (ws.map fun w => if w.isPrefixOf (c :: t) = true then cntL ws0 L ((c :: t).drop w.length) else 0).sum) L
  | [], _, acc, f, h => h.congr fun L => by cases L <;> simp [behind]
  | w :: ws, hw, acc, f, h => by
    have h0 : 0 < w.length := List.length_pos_iff.mpr (hw w List.mem_cons_self)
    have hw' := fun x hx => hw x (List.mem_cons_of_mem w hx)
    rw [List.foldl_cons]
    by_cases hp : w.isPrefixOf (c :: t) = true
    · have hl := (List.isPrefixOf_iff_prefix.mp hp).length_le
      rw [List.length_cons] at hl
      have hd : (c :: t).drop w.length = t.drop (w.length - 1) := by
        rw [show w.length = (w.length - 1) + 1 by omega]
        rfl
      have hx : (rests ws0 t)[w.length - 1]? = some (restT ws0 (t.drop (w.length - 1))) := rests_at ws0 t (w.length - 1) (by omega)
      rw [stepW_at (o := (restT ws0 (t.drop (w.length - 1))).1) (m := (restT ws0 (t.drop (w.length - 1))).2) hp hx]
      have hb' := hb (t.drop (w.length - 1)) (by rw [List.length_drop]; omega)
      refine (fold_best hb ws hw' _ _ (h.add hb')).congr fun L => ?_
      cases L with
      | zero => rfl
      | succ L =>
        show f (L + 1) + cntL ws0 L (t.drop (w.length - 1)) + _ = f (L + 1) + (List.sum ((if w.isPrefixOf (c :: t) = true then cntL ws0 L ((c :: t).drop w.length) else 0) :: _))
        rw [if_pos hp, List.sum_cons, hd, Nat.add_assoc]
        rfl
    · have hs : stepW (c :: t) (rests ws0 t) acc w = acc := if_neg hp
      rw [hs]
      refine (fold_best hb ws hw' acc f h).congr fun L => ?_
      cases L with
      | zero => rfl
      | succ L =>
        show f (L + 1) + _ = f (L + 1) + (List.sum ((if w.isPrefixOf (c :: t) = true then cntL ws0 L ((c :: t).drop w.length) else 0) :: _))
        rw [if_neg hp, List.sum_cons, Nat.zero_add]
        rfl
theorem best_ok {ws : List (List Nat)} (hw : ∀ w ∈ ws, w ≠ []) : ∀ (n : Nat) (t : List Nat), t.length ≤ n → IsBest (restT ws t).1 fun L => cntL ws L t
  | _, [], _ => ⟨Nat.zero_lt_one, fun L hL => by exact absurd hL (Nat.not_lt_zero _)⟩
  | 0, c :: t, h => absurd h (by simp)
  | n + 1, c :: t, h => by
    have hb : ∀ u : List Nat, u.length ≤ t.length → IsBest (restT ws u).1 fun L => cntL ws L u := fun u hu => best_ok hw n u (by rw [List.length_cons] at h; omega)
    have := fold_best (c := c) hb ws hw (none, 0) (fun _ => 0) (fun _ => rfl)
    rw [restT_cons]
    refine this.congr fun L => ?_
    cases L with
    | zero => rfl
    | succ L => show 0 + _ = _; rw [Nat.zero_add]; rfl
def totL (ws : List (List Nat)) : Nat → List Nat → Nat
  | 0, t => if t = [] then 1 else 0
  | N + 1, t => totL ws N t + cntL ws (N + 1) t
theorem cntL_nil {ws : List (List Nat)} (hw : ∀ w ∈ ws, w ≠ []) (L : Nat) : cntL ws (L + 1) [] = 0 := by
  have : ∀ vs : List (List Nat), (∀ w ∈ vs, w ≠ []) → (vs.map fun w => if w.isPrefixOf [] = true then cntL ws L (([] : List Nat).drop w.length) else 0).sum = 0 := by
    intro vs
    induction vs with
    | nil => intro _; rfl
    | cons w vs ih =>
      intro h
      rw [List.map_cons, List.sum_cons, ih fun x hx => h x (List.mem_cons_of_mem _ hx)]
      cases w with
      | nil => exact absurd rfl (h [] List.mem_cons_self)
      | cons a w => simp [List.isPrefixOf]
  exact this ws hw
theorem sum_map_add {α : Type} (xs : List α) (f g : α → Nat) : (xs.map fun x => f x + g x).sum = (xs.map f).sum + (xs.map g).sum := by
  induction xs with
  | nil => rfl
  | cons x xs ih => rw [List.map_cons, List.map_cons, List.map_cons, List.sum_cons, List.sum_cons, List.sum_cons, ih]; omega
theorem tot_cons {ws : List (List Nat)} (c : Nat) (t : List Nat) : ∀ N, totL ws (N + 1) (c :: t) = (ws.map fun w => if w.isPrefixOf (c :: t) = true then totL ws N ((c :: t).drop w.length) else 0).sum
  | 0 => by
    show (if (c :: t) = [] then 1 else 0) + _ = _
    rw [if_neg (by simp), Nat.zero_add]
    rfl
  | N + 1 => by
    show totL ws (N + 1) (c :: t) + cntL ws (N + 1 + 1) (c :: t) = _
    rw [tot_cons c t N]
    show _ + (ws.map fun w => if w.isPrefixOf (c :: t) = true then cntL ws (N + 1) ((c :: t).drop w.length) else 0).sum = _
    rw [← sum_map_add]
    congr 1
    refine List.map_congr_left fun w _ => ?_
    split <;> rfl
theorem tot_cnt {ws : List (List Nat)} (hw : ∀ w ∈ ws, w ≠ []) : ∀ (N : Nat) (t : List Nat), t.length ≤ N → totL ws N t = cnt ws t
  | 0, [], _ => rfl
  | N + 1, [], _ => by
    show totL ws N [] + cntL ws (N + 1) [] = _
    rw [cntL_nil hw, tot_cnt hw N [] (Nat.zero_le _)]
    rfl
  | 0, c :: t, h => absurd h (by simp)
  | N + 1, c :: t, h => by
    rw [tot_cons, cnt_cons hw]
    congr 1
    refine List.map_congr_left fun w hw' => ?_
    split
    · have h0 : 0 < w.length := List.length_pos_iff.mpr (hw w hw')
      exact tot_cnt hw N _ (by rw [List.length_drop]; rw [List.length_cons] at h ⊢; omega)
    · rfl
/-! from the end -/
theorem sum_swap {α β : Type} (xs : List α) (ys : List β) (f : α → β → Nat) : (xs.map fun x => (ys.map fun y => f x y).sum).sum = (ys.map fun y => (xs.map fun x => f x y).sum).sum := by
  induction xs with
  | nil =>
    simp only [List.map_nil, List.sum_nil]
    induction ys with
    | nil => rfl
    | cons y ys ih => rw [List.map_cons, List.sum_cons, ← ih]; rfl
  | cons x xs ih =>
    rw [List.map_cons, List.sum_cons, ih]
    simp only [List.map_cons, List.sum_cons]
    rw [sum_map_add]
theorem if_sum {α : Type} (c : Prop) [Decidable c] (xs : List α) (f : α → Nat) : (if c then (xs.map f).sum else 0) = (xs.map fun x => if c then f x else 0).sum := by
  by_cases z : c
  · simp only [if_pos z]
  · simp only [if_neg z]
    induction xs with
    | nil => rfl
    | cons x xs ih => rw [List.map_cons, List.sum_cons, ← ih]
theorem pre_suf (t w v : List Nat) : (w.isPrefixOf t = true ∧ v.isSuffixOf (t.drop w.length) = true) ↔ (v.isSuffixOf t = true ∧ w.isPrefixOf (t.take (t.length - v.length)) = true) := by
  simp only [List.isPrefixOf_iff_prefix, List.isSuffixOf_iff_suffix]
  constructor
  · rintro ⟨⟨a, rfl⟩, h⟩
    rw [List.drop_left] at h
    obtain ⟨b, rfl⟩ := h
    refine ⟨⟨w ++ b, by simp⟩, ?_⟩
    have : (w ++ (b ++ v)).take ((w ++ (b ++ v)).length - v.length) = w ++ b := by
      rw [← List.append_assoc, List.length_append, Nat.add_sub_cancel, List.take_left]
    rw [this]
    exact List.prefix_append _ _
  · rintro ⟨⟨a, rfl⟩, h⟩
    rw [List.length_append, Nat.add_sub_cancel, List.take_left] at h
    obtain ⟨b, rfl⟩ := h
    refine ⟨by rw [List.append_assoc]; exact List.prefix_append _ _, ?_⟩
    rw [List.append_assoc, List.drop_left]
    exact List.suffix_append _ _
theorem cut_both (t w v : List Nat) (h : w.isPrefixOf t = true ∧ v.isSuffixOf (t.drop w.length) = true) : (t.drop w.length).take ((t.drop w.length).length - v.length) = (t.take (t.length - v.length)).drop w.length := by
  rw [List.drop_take, List.length_drop, Nat.sub_right_comm]
/-- the last word first -/
theorem cntL_end (ws : List (List Nat)) : ∀ (L : Nat) (t : List Nat), cntL ws (L + 1) t = (ws.map fun v => if v.isSuffixOf t = true then cntL ws L (t.take (t.length - v.length)) else 0).sum
  | 0, t => by
    show (ws.map fun w => if w.isPrefixOf t = true then (if t.drop w.length = [] then 1 else 0) else 0).sum = (ws.map fun v => if v.isSuffixOf t = true then (if t.take (t.length - v.length) = [] then 1 else 0) else 0).sum
    congr 1
    refine List.map_congr_left fun w _ => ?_
    have e1 : (w.isPrefixOf t = true ∧ t.drop w.length = []) ↔ w = t := by
      rw [List.isPrefixOf_iff_prefix]
      constructor
      · rintro ⟨⟨a, rfl⟩, h⟩
        rw [List.drop_left] at h
        rw [h, List.append_nil]
      · rintro rfl
        exact ⟨List.prefix_rfl, List.drop_length⟩
    have e2 : (w.isSuffixOf t = true ∧ t.take (t.length - w.length) = []) ↔ w = t := by
      rw [List.isSuffixOf_iff_suffix]
      constructor
      · rintro ⟨⟨a, rfl⟩, h⟩
        rw [List.length_append, Nat.add_sub_cancel, List.take_left] at h
        rw [h, List.nil_append]
      · rintro rfl
        exact ⟨List.suffix_rfl, by rw [Nat.sub_self]; rfl⟩
    by_cases z : w = t
    · rw [if_pos (e1.mpr z).1, if_pos (e1.mpr z).2, if_pos (e2.mpr z).1, if_pos (e2.mpr z).2]
    · have a1 : (if w.isPrefixOf t = true then (if t.drop w.length = [] then 1 else 0) else 0) = 0 := by
        by_cases p : w.isPrefixOf t = true
        · rw [if_pos p, if_neg fun q => z (e1.mp ⟨p, q⟩)]
        · rw [if_neg p]
      have a2 : (if w.isSuffixOf t = true then (if t.take (t.length - w.length) = [] then 1 else 0) else 0) = 0 := by
        by_cases p : w.isSuffixOf t = true
        · rw [if_pos p, if_neg fun q => z (e2.mp ⟨p, q⟩)]
        · rw [if_neg p]
      rw [a1, a2]
  | L + 1, t => by
    have e1 : cntL ws (L + 1 + 1) t = (ws.map fun w => (ws.map fun v => if w.isPrefixOf t = true then (if v.isSuffixOf (t.drop w.length) = true then cntL ws L ((t.drop w.length).take ((t.drop w.length).length - v.length)) else 0) else 0).sum).sum := by
      show (ws.map fun w => if w.isPrefixOf t = true then cntL ws (L + 1) (t.drop w.length) else 0).sum = _
      congr 1
      refine List.map_congr_left fun w _ => ?_
      rw [← if_sum]
      by_cases p : w.isPrefixOf t = true
      · rw [if_pos p, if_pos p, cntL_end ws L]
      · rw [if_neg p, if_neg p]
    rw [e1, sum_swap]
    congr 1
    refine List.map_congr_left fun v _ => ?_
    show _ = if v.isSuffixOf t = true then (ws.map fun w => if w.isPrefixOf (t.take (t.length - v.length)) = true then cntL ws L ((t.take (t.length - v.length)).drop w.length) else 0).sum else 0
    rw [if_sum]
    congr 1
    refine List.map_congr_left fun w _ => ?_
    by_cases p : w.isPrefixOf t = true ∧ v.isSuffixOf (t.drop w.length) = true
    · have q := (pre_suf t w v).mp p
      rw [if_pos p.1, if_pos p.2, if_pos q.1, if_pos q.2, cut_both t w v p]
    · have q := fun z => p ((pre_suf t w v).mpr z)
      have a1 : (if w.isPrefixOf t = true then (if v.isSuffixOf (t.drop w.length) = true then cntL ws L ((t.drop w.length).take ((t.drop w.length).length - v.length)) else 0) else 0) = 0 := by
        by_cases p1 : w.isPrefixOf t = true
        · rw [if_pos p1, if_neg fun z => p ⟨p1, z⟩]
        · rw [if_neg p1]
      have a2 : (if v.isSuffixOf t = true then (if w.isPrefixOf (t.take (t.length - v.length)) = true then cntL ws L ((t.take (t.length - v.length)).drop w.length) else 0) else 0) = 0 := by
        by_cases p1 : v.isSuffixOf t = true
        · rw [if_pos p1, if_neg fun z => q ⟨p1, z⟩]
        · rw [if_neg p1]
      rw [a1, a2]
/-- all turned round -/
theorem cntL_rev (ws : List (List Nat)) : ∀ (L : Nat) (t : List Nat), cntL (ws.map List.reverse) L t.reverse = cntL ws L t
  | 0, t => by
    show (if t.reverse = [] then 1 else 0) = if t = [] then 1 else 0
    simp
  | L + 1, t => by
    rw [cntL_end ws L t]
    show ((ws.map List.reverse).map fun w => if w.isPrefixOf t.reverse = true then cntL (ws.map List.reverse) L (t.reverse.drop w.length) else 0).sum = _
    rw [List.map_map]
    congr 1
    refine List.map_congr_left fun v _ => ?_
    show (if v.reverse.isPrefixOf t.reverse = true then cntL (ws.map List.reverse) L (t.reverse.drop v.reverse.length) else 0) = _
    have e : v.reverse.isPrefixOf t.reverse = v.isSuffixOf t := by
      unfold List.isSuffixOf
      rfl
    rw [e]
    split
    · rw [List.length_reverse, List.drop_reverse, cntL_rev ws L]
    · rfl
theorem totL_rev (ws : List (List Nat)) : ∀ (N : Nat) (t : List Nat), totL (ws.map List.reverse) N t.reverse = totL ws N t
  | 0, t => cntL_rev ws 0 t
  | N + 1, t => by
    show totL _ N t.reverse + cntL _ (N + 1) t.reverse = _
    rw [totL_rev ws N t, cntL_rev]
    rfl
theorem rev_ne {ws : List (List Nat)} (hw : ∀ w ∈ ws, w ≠ []) : ∀ w ∈ ws.map List.reverse, w ≠ [] := fun w h => by
  obtain ⟨v, hv, rfl⟩ := List.mem_map.mp h
  simpa using hw v hv
/-- read from the end, the same -/
theorem restT_rev {ws : List (List Nat)} (hw : ∀ w ∈ ws, w ≠ []) (t : List Nat) : restT (ws.map List.reverse) t.reverse = restT ws t := by
  have h1 : (restT (ws.map List.reverse) t.reverse).1 = (restT ws t).1 :=
    ((best_ok (rev_ne hw) _ t.reverse (Nat.le_refl _)).congr fun L => cntL_rev ws L t).uniq (best_ok hw _ t (Nat.le_refl _))
  have h2 : (restT (ws.map List.reverse) t.reverse).2 = (restT ws t).2 := by
    have a := tot_cnt (rev_ne hw) t.length t.reverse (by rw [List.length_reverse]; exact Nat.le_refl _)
    have b := tot_cnt hw t.length t (Nat.le_refl _)
    rw [totL_rev] at a
    exact a.symm.trans b
  exact Prod.ext h1 h2
end QL

end
section
/-! what the defs about rows do -/
namespace QL
open PySem PySem.Spec L2 QW
local macro_rules | `(tactic| walk_at "EV") => `(tactic| simp only [ws_raise, ws_try, ws_tryR, we_mtS, as_e, as_str, D.asI, wo_none, wo_some, we_slice, wp_exc, ws_seq, ws_if, ws_nil, ws_let, ws_set, ws_ret, ws_asg, ws_par, par_2, next_nx, ws_expr, ws_sub, ws_for, then_nx, then_rt, let_sh, let_ow, set_sh, set_ow, store_un, store_sh, store_ow, ret_sh, ret_ow, ret_al, back_sh, back_ow, own_ow, run_nx, run_rt, wb_val, bl_is, wb_and, wb_or, wb_not, ds_e, ds_l, ds_r, ds_lr, ds_u, ds_v, ds_U, ds_V, ds_uv, ds_uvUV, ds_mi, ds_n0, ds_n1, ds_co, ds_sl, ds_bl, ds_rr, ds_rrr, ds_ll, we_bin, we_chain, chain_b, we_un, we_if, we_and, we_or, we_not, we_name, slot_sh, slot_ow, we_share, share_sh, share_ow, we_c, we_tup, we_lst, we_callB, we_isT, we_call, we_mut, wl_nil, wl_cons, wp_bind, wp_ok, wp_opt, at_some, at_map, List.map_cons, List.map_nil, Ar.sl, List.length_cons, List.length_nil, List.cons_append, List.nil_append, List.getElem?_cons_zero, List.getElem?_cons_succ, List.set_cons_zero, List.set_cons_succ, Res.get, Res.own, owns, gets, argsOf, lentS, backS, Ar.res, outsOf, Option.map_some, Option.bind_some, Bool.true_eq_false, Bool.false_eq_true, if_true, if_false, g_lst, g_tup, g_clst, g_ctup, s_lst, p_add, p_sub, p_mul, p_mod, p_fdiv, p_pow, p_neg, p_lt, p_le, p_gt, p_ge, p_eqI, p_neI, p_mulT, p_mulL, p_addT, p_addL, p_slT, p_slL, p_start, p_start3, p_end, p_lenT, p_abs, p_ii_max, p_ii_min, Res.norm, ix_0, ix_1, ix_2, ix_3, n3_0, n3_1, n3_2, List.replicate, decide_eq_true_eq, and_true, true_and, List.nodup_nil, List.nodup_cons, List.not_mem_nil, not_false_eq_true, gSet, fr_un, fr_sh, fr_ow, eq_self, gTupD, gsCons, gsNil, lp_nil, lp_cons, loop_nx, loop_rt, wi_any, wk_l, wk_t, wk_c, wi_r1, wi_r2, asI1, asI2, rng_2, rng_4, isL, isDi, ap_M, tu_l, tu_t, ld_l, ld_t, len_l, len_t, len_c, len_ct, int_b, int_i, wb_yes, we_comp, lc_nil, isTn, forD_sh, ws_forD, we_compD, compD_sh, ko_k, ko_t, we_dget, we_dget2, is_dk, is_dt, wi_enu, as_L, Bool.not_true, Bool.not_false, Bool.and_self, Int.reduceAdd, Int.reduceSub, Int.reduceMul, Int.reduceNeg, Int.reducePow, Int.reduceToNat, Nat.reduceLT, Int.reduceLT, Int.reduceLE, Nat.reduceAdd, Nat.reduceSub, Nat.reduceLeDiff, Nat.reduceEqDiff])
local macro_rules | `(tactic| walk_at "EL") => `(tactic| simp only [ws_raise, ws_try, ws_tryR, we_mtS, as_e, as_str, D.asI, wo_none, wo_some, we_slice, wp_exc, ws_seq, ws_if, ws_nil, ws_let, ws_set, ws_ret, ws_asg, ws_par, par_2, next_nx, ws_expr, ws_sub, ws_for, then_nx, then_rt, let_sh, let_ow, set_sh, set_ow, store_un, store_sh, store_ow, ret_sh, ret_ow, ret_al, back_sh, back_ow, own_ow, run_nx, run_rt, wb_val, bl_is, wb_and, wb_or, wb_not, ds_e, ds_l, ds_r, ds_lr, ds_u, ds_v, ds_U, ds_V, ds_uv, ds_uvUV, ds_mi, ds_n0, ds_n1, ds_co, ds_sl, ds_bl, ds_rr, ds_rrr, ds_ll, we_bin, we_chain, chain_b, we_un, we_if, we_and, we_or, we_not, we_name, slot_sh, slot_ow, we_share, share_sh, share_ow, we_c, we_tup, we_lst, we_callB, we_isT, we_call, we_mut, wl_nil, wl_cons, wp_bind, wp_ok, wp_opt, at_some, at_map, List.map_cons, List.map_nil, Ar.sl, List.length_cons, List.length_nil, List.cons_append, List.nil_append, List.getElem?_cons_zero, List.getElem?_cons_succ, List.set_cons_zero, List.set_cons_succ, Res.get, Res.own, owns, gets, argsOf, lentS, backS, Ar.res, outsOf, Option.map_some, Option.bind_some, Bool.true_eq_false, Bool.false_eq_true, if_true, if_false, g_lst, g_tup, g_clst, g_ctup, s_lst, p_add, p_sub, p_mul, p_mod, p_fdiv, p_pow, p_neg, p_lt, p_le, p_gt, p_ge, p_eqI, p_neI, p_mulT, p_mulL, p_addT, p_addL, p_slT, p_slL, p_start, p_start3, p_end, p_lenT, p_abs, p_ii_max, p_ii_min, Res.norm, ix_0, ix_1, ix_2, ix_3, n3_0, n3_1, n3_2, List.replicate, decide_eq_true_eq, and_true, true_and, List.nodup_nil, List.nodup_cons, List.not_mem_nil, not_false_eq_true, gSet, fr_un, fr_sh, fr_ow, eq_self, gTupD, gsCons, gsNil, loop_nx, loop_rt, wi_any, wk_l, wk_t, wk_c, wi_r1, wi_r2, asI1, asI2, rng_2, rng_4, isL, isDi, ap_M, tu_l, tu_t, ld_l, ld_t, len_l, len_t, len_c, len_ct, int_b, int_i, wb_yes, we_comp, isTn, forD_sh, ws_forD, we_compD, compD_sh, ko_k, ko_t, we_dget, we_dget2, is_dk, is_dt, wi_enu, as_L, Bool.not_true, Bool.not_false, Bool.and_self, Int.reduceAdd, Int.reduceSub, Int.reduceMul, Int.reduceNeg, Int.reducePow, Int.reduceToNat, Nat.reduceLT, Int.reduceLT, Int.reduceLE, Nat.reduceAdd, Nat.reduceSub, Nat.reduceLeDiff, Nat.reduceEqDiff])
local macro_rules | `(tactic| row_walk with [$xs,*]) => `(tactic| simp only [ws_raise, ws_try, ws_tryR, we_mtS, as_e, as_str, D.asI, wo_none, wo_some, we_slice, wp_exc, ws_seq, ws_if, ws_nil, ws_let, ws_set, ws_ret, ws_asg, ws_par, par_2, next_nx, ws_expr, ws_sub, ws_for, then_nx, then_rt, let_sh, let_ow, set_sh, set_ow, store_un, store_sh, store_ow, ret_sh, ret_ow, ret_al, back_sh, back_ow, own_ow, run_nx, run_rt, wb_val, bl_is, wb_and, wb_or, wb_not, ds_e, ds_l, ds_r, ds_lr, ds_u, ds_v, ds_U, ds_V, ds_uv, ds_uvUV, ds_mi, ds_n0, ds_n1, ds_co, ds_sl, ds_bl, ds_rr, ds_rrr, ds_ll, we_bin, we_chain, chain_b, we_un, we_if, we_and, we_or, we_not, we_name, slot_sh, slot_ow, we_share, share_sh, share_ow, we_c, we_tup, we_lst, we_callB, we_isT, we_call, we_mut, wl_nil, wl_cons, wp_bind, wp_ok, wp_opt, at_some, at_map, List.map_cons, List.map_nil, Ar.sl, List.length_cons, List.length_nil, List.cons_append, List.nil_append, List.getElem?_cons_zero, List.getElem?_cons_succ, List.set_cons_zero, List.set_cons_succ, Res.get, Res.own, owns, gets, argsOf, lentS, backS, Ar.res, outsOf, Option.map_some, Option.bind_some, Bool.true_eq_false, Bool.false_eq_true, if_true, if_false, g_lst, g_tup, g_clst, g_ctup, s_lst, p_add, p_sub, p_mul, p_mod, p_fdiv, p_pow, p_neg, p_lt, p_le, p_gt, p_ge, p_eqI, p_neI, p_mulT, p_mulL, p_addT, p_addL, p_slT, p_slL, p_start, p_start3, p_end, p_lenT, p_abs, p_ii_max, p_ii_min, Res.norm, ix_0, ix_1, ix_2, ix_3, n3_0, n3_1, n3_2, List.replicate, decide_eq_true_eq, and_true, true_and, List.nodup_nil, List.nodup_cons, List.not_mem_nil, not_false_eq_true, gSet, fr_un, fr_sh, fr_ow, eq_self, gTupD, gsCons, gsNil, loop_nx, loop_rt, wi_any, wk_l, wk_t, wk_c, wi_r1, wi_r2, asI1, asI2, rng_2, rng_4, isL, isDi, ap_M, tu_l, tu_t, ld_l, ld_t, len_l, len_t, len_c, len_ct, int_b, int_i, wb_yes, we_comp, isTn, forD_sh, ws_forD, we_compD, compD_sh, ko_k, ko_t, we_dget, we_dget2, is_dk, is_dt, wi_enu, as_L, Bool.not_true, Bool.not_false, Bool.and_self, Int.reduceAdd, Int.reduceSub, Int.reduceMul, Int.reduceNeg, Int.reducePow, Int.reduceToNat, Nat.reduceLT, Int.reduceLT, Int.reduceLE, Nat.reduceAdd, Nat.reduceSub, Nat.reduceLeDiff, Nat.reduceEqDiff, $[$xs:term],*])
def encO : Option Nat → D
  | none => .non
  | some n => .int n
abbrev encP (p : Option Nat × Nat) : D := .tup [encO p.1, .int p.2]
abbrev encR (r : List (Option Nat × Nat)) : D := .lst (r.map encP)
theorem is_non {o : Option Nat} : isNP (encO o) .non = some (.sh (.bl (decide (o = none)))) := by cases o <;> rfl
theorem no_non {o : Option Nat} : noNP (encO o) .non = some (.sh (.bl (!decide (o = none)))) := by cases o <;> rfl
theorem rngDn_cons {k : Nat} : rngDn k (-1) = .int k :: rngDn (k - 1) (-1) := by
  unfold rngDn
  rw [show ((k : Int) - -1).toNat = k + 1 by omega, List.range_succ_eq_map, List.map_cons, List.map_map]
  refine List.cons_eq_cons.mpr ⟨by simp, ?_⟩
  rw [show ((k : Int) - 1 - -1).toNat = k by omega]
  refine List.map_congr_left fun i _ => ?_
  show D.int _ = D.int _
  congr 1
  simp only [Nat.succ_eq_add_one]
  omega
theorem rngDn_nil : rngDn (-1) (-1) = [] := rfl
def asI3 : List D → Option (Int × Int × Int)
  | [.int i, .int j, .int c] => some (i, j, c)
  | _ => none
section
variable {E : String → EnvQ → Prop} {ρ : EnvQ} {fl : CL} {QI : List D × EnvQ → Prop}
theorem wi_r3 : Wp E (iRng3' fl ρ) QI ↔ Wp E (fl ρ) fun a => atQ (gets a.2 a.1) fun ds => atQ (asI3 ds) fun p => (p.2.2 = -1 ∧ -1000000 ≤ p.1 ∧ p.1 ≤ 1000000 ∧ -1000000 ≤ p.2.1 ∧ p.2.1 ≤ 1000000) ∧ QI (rngDn p.1 p.2.1, a.2) := by
  unfold iRng3'
  refine wp_bind.trans (wp_ext fun a => ?_)
  cases gets a.2 a.1 with
  | none => exact Iff.rfl
  | some ds =>
    match ds with
    | [] => exact Iff.rfl
    | [d] => cases d <;> exact Iff.rfl
    | [d, e] => cases d <;> first | exact Iff.rfl | (cases e <;> exact Iff.rfl)
    | [d, e, f] =>
      cases d with
      | int i =>
        cases e with
        | int j =>
          cases f with
          | int c => exact wp_only
          | _ => exact Iff.rfl
        | _ => exact Iff.rfl
      | _ => exact Iff.rfl
    | d :: e :: f :: g :: r => cases d <;> first | exact Iff.rfl | (cases e <;> first | exact Iff.rfl | (cases f <;> exact Iff.rfl))
end
theorem ins_M {xs : List D} {x : D} {P : D × D → Prop} : atQ (insertM (.lst xs) [.int 0, x]) P ↔ xs.length < 1000000 ∧ P (.lst (x :: xs), .non) := by
  show atQ (if 0 ≤ (0 : Int) ∧ (0 : Int) < 1000000 ∧ xs.length < 1000000 then some (D.lst (xs.take (Int.toNat 0) ++ [x] ++ xs.drop (Int.toNat 0)), D.non) else none) P ↔ _
  by_cases h : xs.length < 1000000
  · rw [if_pos ⟨by decide, by decide, h⟩]
    simp [atQ, h]
  · rw [if_neg fun z => h z.2.2]
    simp [atQ, h]
theorem rest_inner {ws0 : D} {t : List Nat} {at_ : Nat} {r : List (Option Nat × Nat)} {e0 : Sl} (ht : t.length ≤ 100000) (hat : at_ < t.length) (hr : r.length = t.length - at_) : ∀ (ws : List (List Nat)), (∀ w ∈ ws, Mk w) → ∀ (acc : Option Nat × Nat) (s6 s7 : Sl), s6.free = true → s7.free = true →
    Wp N0 (loopFor (gSet 6) (sIf (bVal (eMtS startP (eName 1) (lCons (eName 6) (lCons (eName 3) lNil)))) (sSeq (sLet 7 (eBin gixP (eName 2) (eBin subP (eCallB lenP (lCons (eName 6) lNil)) (eC (.int 1)))))
    (sSeq (sLet 5 (eBin addP (eName 5) (eBin gixP (eName 7) (eC (.int 1)))))
    (sIf (bAnd (bVal (eBin noNP (eBin gixP (eName 7) (eC (.int 0))) (eC .non))) (bOr (bVal (eBin isNP (eName 4) (eC .non))) (bVal (eBin ltP (eBin addP (eBin gixP (eName 7) (eC (.int 0))) (eC (.int 1))) (eName 4))))) (sLet 4 (eBin addP (eBin gixP (eName 7) (eC (.int 0))) (eC (.int 1)))) sNil))) sNil) (ws.map D.str)
      [.sh ws0, .sh (.str t), .ow false (encR r), .sh (.int at_), .sh (encO acc.1), .sh (.int acc.2), s6, s7]) fun x => ∃ s6 s7, Sl.free s6 = true ∧ Sl.free s7 = true ∧ x = .nx [.sh ws0, .sh (.str t), .ow false (encR r), .sh (.int at_), .sh (encO (ws.foldl (stepW (t.drop at_) r) acc).1), .sh (.int (ws.foldl (stepW (t.drop at_) r) acc).2), s6, s7]
  | [], _, acc, s6, s7, f6, f7 => ⟨s6, s7, f6, f7, rfl⟩
  | w :: ws, hw, acc, s6, s7, f6, f7 => by
    have mw := hw w List.mem_cons_self
    have m1 := mw.one; have m2 := mw.most
    have ih := rest_inner (e0 := e0) (ws0 := ws0) ht hat hr ws fun x hx => hw x (List.mem_cons_of_mem _ hx)
    rw [List.map_cons, lp_cons, List.foldl_cons]
    have eg : gSet 6 (.str w) [.sh ws0, .sh (.str t), .ow false (encR r), .sh (.int at_), .sh (encO acc.1), .sh (.int acc.2), s6, s7] = some [.sh ws0, .sh (.str t), .ow false (encR r), .sh (.int at_), .sh (encO acc.1), .sh (.int acc.2), .sh (.str w), s7] := if_pos f6
    rw [eg]
    row_walk with [Int.toNat_natCast, stands_pre (show at_ ≤ t.length by omega)]
    refine ⟨by omega, ?_⟩
    by_cases hp : w.isPrefixOf (t.drop at_) = true
    · rw [if_pos hp]
      have hle := (List.isPrefixOf_iff_prefix.mp hp).length_le
      rw [List.length_drop] at hle
      obtain ⟨x, hx, ex⟩ := ati_nat (xs := r) (i := (w.length : Int) - 1) (by omega) (by omega)
      rw [show ((w.length : Int) - 1).toNat = w.length - 1 by omega] at hx
      obtain ⟨o, m⟩ := x
      obtain ⟨o', mm⟩ := acc
      rw [stepW_at (acc := (o', mm)) hp hx]
      row_walk with [ati_map, ex, store_gen f7, no_non, is_non]
      refine ⟨by omega, ?_⟩
      cases o with
      | none =>
        rw [decide_eq_true rfl]
        walk_at "EL"
        exact ih (o', mm + m) (.sh (.str w)) (.sh (encP (none, m))) rfl rfl
      | some k =>
        rw [decide_eq_false (by simp)]
        cases o' with
        | none =>
          row_walk with [encO]
          exact ih (some (k + 1), mm + m) (.sh (.str w)) (.sh (encP (some k, m))) rfl rfl
        | some b =>
          row_walk with [encO, reduceCtorEq]
          have := ih (better (some b) (k + 1), mm + m) (.sh (.str w)) (.sh (encP (some k, m))) rfl rfl
          show if (k : Int) + 1 < b then _ else _
          by_cases hb : k + 1 < b
          · rw [if_pos (show (k : Int) + 1 < b by omega)]
            rw [show better (some b) (k + 1) = some (k + 1) from if_pos hb] at this
            rw [show addO (some b) (some k) = some (k + 1) from if_pos hb]
            exact this
          · rw [if_neg (show ¬ (k : Int) + 1 < b by omega)]
            rw [show better (some b) (k + 1) = some b from if_neg hb] at this
            rw [show addO (some b) (some k) = some b from if_neg hb]
            exact this
    · rw [if_neg hp]
      have hs : stepW (t.drop at_) r acc w = acc := if_neg hp
      rw [hs]
      exact ih acc _ s7 rfl f7
theorem rest_rows_ok {ws : List (List Nat)} {t : List Nat} (hw : ∀ w ∈ ws, Mk w) (hl : ws.length ≤ 8) (ht : t.length ≤ 100000) : Wp N0 (frest_rows [.sh (encW ws), .sh (.str t)]) fun p => p = (.ow (encR (rests ws t)), [.sh (encW ws), .sh (.str t)]) := by
  unfold frest_rows crest_rows
  rw [wp_run]
  row_walk with [wi_r3, asI3]
  refine ⟨by omega, by omega, ?_⟩
  refine wp_loop (fun ds ρ => ∃ (k : Nat) (s3 s4 s5 s6 s7 : Sl), k ≤ t.length ∧ ds = rngDn ((k : Int) - 1) (-1) ∧ (s3.free = true ∧ s4.free = true ∧ s5.free = true ∧ s6.free = true ∧ s7.free = true) ∧ ρ = [.sh (encW ws), .sh (.str t), .ow false (encR (rests ws (t.drop k))), s3, s4, s5, s6, s7]) ?_ ?_ _ _ ⟨t.length, .un, .un, .un, .un, .un, Nat.le_refl _, rfl, ⟨rfl, rfl, rfl, rfl, rfl⟩, ?_⟩
  · rintro ρ ⟨k, s3, s4, s5, s6, s7, hk, hd, _, rfl⟩
    have : k = 0 := by
      have := congrArg List.length hd
      unfold rngDn at this
      simp at this
      omega
    subst this
    walk_at "EL"
    rfl
  · rintro d ds ρ ⟨k, s3, s4, s5, s6, s7, hk, hd, ⟨f3, f4, f5, f6, f7⟩, rfl⟩
    cases k with
    | zero =>
      rw [show ((0 : Nat) : Int) - 1 = -1 by decide, rngDn_nil] at hd
      cases hd
    | succ k =>
      rw [show ((k + 1 : Nat) : Int) - 1 = k by omega, rngDn_cons] at hd
      cases hd
      refine ⟨_, if_pos f3, ?_⟩
      row_walk with [store_gen f4, store_gen f5]
      refine (rest_inner (e0 := .un) (ws0 := encW ws) (t := t) (at_ := k) (r := rests ws (t.drop (k + 1))) ht (by omega) (by rw [rests_len, List.length_drop]; omega) ws hw (none, 0) s6 s7 f6 f7).mono ?_
      rintro _ ⟨s6', s7', g6, g7, rfl⟩
      have hc : t.drop k = (t[k]'(by omega)) :: t.drop (k + 1) := List.drop_eq_getElem_cons (by omega)
      row_walk with [ins_M, List.length_map]
      refine ⟨by rw [rests_len, List.length_drop]; omega, k, .sh (.int k), .sh (encO (restT ws (t.drop k)).1), .sh (.int (restT ws (t.drop k)).2), s6', s7', by omega, rfl, ⟨rfl, rfl, rfl, g6, g7⟩, ?_⟩
      rw [show rests ws (t.drop k) = restT ws (t.drop k) :: rests ws (t.drop (k + 1)) by rw [hc]; rfl, show ws.foldl (stepW (t.drop k) (rests ws (t.drop (k + 1)))) (none, 0) = restT ws (t.drop k) by rw [hc]; rfl]
      rfl
  · rw [List.drop_length]
    rfl

theorem encR_ne (ws : List (List Nat)) (t : List Nat) : ∃ r, rests ws t = restT ws t :: r := by
  cases t with
  | nil => exact ⟨[], rfl⟩
  | cons c t => exact ⟨_, rfl⟩
theorem many_rows_ok {ws : List (List Nat)} {t : List Nat} (h : Mks ws) (ht : LR t) (hl : t.length ≤ 400) : Wp N0 (fmany_rows [.sh (encM ws), .sh (dT (tabW t))]) fun p => p = (.sh (.int (cnt ws t)), [.sh (encM ws), .sh (dT (tabW t))]) := by
  unfold fmany_rows cmany_rows
  rw [wp_run]
  walk_at "EV"
  refine (words_of_ok h).mono ?_
  rintro _ rfl
  walk_at "EV"
  refine (word_of_fit ht hl).mono ?_
  rintro _ rfl
  walk_at "EV"
  refine (rest_rows_ok h.all h.most (by omega)).mono ?_
  rintro _ rfl
  obtain ⟨r, hr⟩ := encR_ne ws t
  rw [hr]
  walk_at "EV"
  rfl
end QL

end
section
/-! counts of rows -/
namespace QL
open PySem PySem.Spec L2 QW
local macro_rules | `(tactic| walk_at "EL") => `(tactic| simp only [ws_raise, ws_try, ws_tryR, we_mtS, as_e, as_str, D.asI, wo_none, wo_some, we_slice, wp_exc, ws_seq, ws_if, ws_nil, ws_let, ws_set, ws_ret, ws_asg, ws_par, par_2, next_nx, ws_expr, ws_sub, ws_for, then_nx, then_rt, let_sh, let_ow, set_sh, set_ow, store_un, store_sh, store_ow, ret_sh, ret_ow, ret_al, back_sh, back_ow, own_ow, run_nx, run_rt, wb_val, bl_is, wb_and, wb_or, wb_not, ds_e, ds_l, ds_r, ds_lr, ds_u, ds_v, ds_U, ds_V, ds_uv, ds_uvUV, ds_mi, ds_n0, ds_n1, ds_co, ds_sl, ds_bl, ds_rr, ds_rrr, ds_ll, we_bin, we_chain, chain_b, we_un, we_if, we_and, we_or, we_not, we_name, slot_sh, slot_ow, we_share, share_sh, share_ow, we_c, we_tup, we_lst, we_callB, we_isT, we_call, we_mut, wl_nil, wl_cons, wp_bind, wp_ok, wp_opt, at_some, at_map, List.map_cons, List.map_nil, Ar.sl, List.length_cons, List.length_nil, List.cons_append, List.nil_append, List.getElem?_cons_zero, List.getElem?_cons_succ, List.set_cons_zero, List.set_cons_succ, Res.get, Res.own, owns, gets, argsOf, lentS, backS, Ar.res, outsOf, Option.map_some, Option.bind_some, Bool.true_eq_false, Bool.false_eq_true, if_true, if_false, g_lst, g_tup, g_clst, g_ctup, s_lst, p_add, p_sub, p_mul, p_mod, p_fdiv, p_pow, p_neg, p_lt, p_le, p_gt, p_ge, p_eqI, p_neI, p_mulT, p_mulL, p_addT, p_addL, p_slT, p_slL, p_start, p_start3, p_end, p_lenT, p_abs, p_ii_max, p_ii_min, Res.norm, ix_0, ix_1, ix_2, ix_3, n3_0, n3_1, n3_2, List.replicate, decide_eq_true_eq, and_true, true_and, List.nodup_nil, List.nodup_cons, List.not_mem_nil, not_false_eq_true, gSet, fr_un, fr_sh, fr_ow, eq_self, gTupD, gsCons, gsNil, loop_nx, loop_rt, wi_any, wk_l, wk_t, wk_c, wi_r1, wi_r2, asI1, asI2, rng_2, rng_4, isL, isDi, ap_M, tu_l, tu_t, ld_l, ld_t, len_l, len_t, len_c, len_ct, int_b, int_i, wb_yes, we_comp, isTn, forD_sh, ws_forD, we_compD, compD_sh, ko_k, ko_t, we_dget, we_dget2, is_dk, is_dt, wi_enu, as_L, Bool.not_true, Bool.not_false, Bool.and_self, Int.reduceAdd, Int.reduceSub, Int.reduceMul, Int.reduceNeg, Int.reducePow, Int.reduceToNat, Nat.reduceLT, Int.reduceLT, Int.reduceLE, Nat.reduceAdd, Nat.reduceSub, Nat.reduceLeDiff, Nat.reduceEqDiff])
local macro_rules | `(tactic| wide_open with [$xs,*]) => `(tactic| simp only [ws_raise, ws_try, ws_tryR, we_mtS, as_e, as_str, D.asI, wo_none, wo_some, we_slice, wp_exc, ws_seq, ws_if, ws_nil, ws_let, ws_set, ws_ret, ws_asg, ws_par, par_2, next_nx, ws_expr, ws_sub, ws_for, then_nx, then_rt, let_sh, let_ow, set_sh, set_ow, store_un, store_sh, store_ow, ret_sh, ret_ow, ret_al, back_sh, back_ow, own_ow, run_nx, run_rt, wb_val, bl_is, wb_and, wb_or, wb_not, ds_e, ds_l, ds_r, ds_lr, ds_u, ds_v, ds_U, ds_V, ds_uv, ds_uvUV, ds_mi, ds_n0, ds_n1, ds_co, ds_sl, ds_bl, ds_rr, ds_rrr, ds_ll, we_bin, we_chain, chain_b, we_un, we_if, we_and, we_or, we_not, we_name, slot_sh, slot_ow, we_share, share_sh, share_ow, we_c, we_tup, we_lst, we_callB, we_isT, we_call, we_mut, wl_nil, wl_cons, wp_bind, wp_ok, wp_opt, at_some, at_map, List.map_cons, List.map_nil, Ar.sl, List.length_cons, List.length_nil, List.cons_append, List.nil_append, List.getElem?_cons_zero, List.getElem?_cons_succ, List.set_cons_zero, List.set_cons_succ, Res.get, Res.own, owns, gets, argsOf, lentS, backS, Ar.res, outsOf, Option.map_some, Option.bind_some, Bool.true_eq_false, Bool.false_eq_true, if_true, if_false, g_lst, g_tup, g_clst, g_ctup, s_lst, p_add, p_sub, p_mul, p_mod, p_fdiv, p_pow, p_neg, p_lt, p_le, p_gt, p_ge, p_eqI, p_neI, p_mulT, p_mulL, p_addT, p_addL, p_slT, p_slL, p_start, p_start3, p_end, p_lenT, p_abs, p_ii_max, p_ii_min, Res.norm, ix_0, ix_1, ix_2, ix_3, n3_0, n3_1, n3_2, List.replicate, decide_eq_true_eq, and_true, true_and, List.nodup_nil, List.nodup_cons, List.not_mem_nil, not_false_eq_true, gSet, fr_un, fr_sh, fr_ow, eq_self, gTupD, gsCons, gsNil, lp_nil, lp_cons, loop_nx, loop_rt, wi_any, wk_l, wk_t, wk_c, wi_r1, wi_r2, asI1, asI2, rng_2, rng_4, isL, isDi, ap_M, tu_l, tu_t, ld_l, ld_t, len_l, len_t, len_c, len_ct, int_b, int_i, wb_yes, we_comp, lc_nil, isTn, forD_sh, ws_forD, we_compD, compD_sh, ko_k, ko_t, we_dget, we_dget2, is_dk, is_dt, wi_enu, as_L, Bool.not_true, Bool.not_false, Bool.and_self, Int.reduceAdd, Int.reduceSub, Int.reduceMul, Int.reduceNeg, Int.reducePow, Int.reduceToNat, Nat.reduceLT, Int.reduceLT, Int.reduceLE, Nat.reduceAdd, Nat.reduceSub, Nat.reduceLeDiff, Nat.reduceEqDiff, $[$xs:term],*])
local macro_rules | `(tactic| row_walk with [$xs,*]) => `(tactic| simp only [ws_raise, ws_try, ws_tryR, we_mtS, as_e, as_str, D.asI, wo_none, wo_some, we_slice, wp_exc, ws_seq, ws_if, ws_nil, ws_let, ws_set, ws_ret, ws_asg, ws_par, par_2, next_nx, ws_expr, ws_sub, ws_for, then_nx, then_rt, let_sh, let_ow, set_sh, set_ow, store_un, store_sh, store_ow, ret_sh, ret_ow, ret_al, back_sh, back_ow, own_ow, run_nx, run_rt, wb_val, bl_is, wb_and, wb_or, wb_not, ds_e, ds_l, ds_r, ds_lr, ds_u, ds_v, ds_U, ds_V, ds_uv, ds_uvUV, ds_mi, ds_n0, ds_n1, ds_co, ds_sl, ds_bl, ds_rr, ds_rrr, ds_ll, we_bin, we_chain, chain_b, we_un, we_if, we_and, we_or, we_not, we_name, slot_sh, slot_ow, we_share, share_sh, share_ow, we_c, we_tup, we_lst, we_callB, we_isT, we_call, we_mut, wl_nil, wl_cons, wp_bind, wp_ok, wp_opt, at_some, at_map, List.map_cons, List.map_nil, Ar.sl, List.length_cons, List.length_nil, List.cons_append, List.nil_append, List.getElem?_cons_zero, List.getElem?_cons_succ, List.set_cons_zero, List.set_cons_succ, Res.get, Res.own, owns, gets, argsOf, lentS, backS, Ar.res, outsOf, Option.map_some, Option.bind_some, Bool.true_eq_false, Bool.false_eq_true, if_true, if_false, g_lst, g_tup, g_clst, g_ctup, s_lst, p_add, p_sub, p_mul, p_mod, p_fdiv, p_pow, p_neg, p_lt, p_le, p_gt, p_ge, p_eqI, p_neI, p_mulT, p_mulL, p_addT, p_addL, p_slT, p_slL, p_start, p_start3, p_end, p_lenT, p_abs, p_ii_max, p_ii_min, Res.norm, ix_0, ix_1, ix_2, ix_3, n3_0, n3_1, n3_2, List.replicate, decide_eq_true_eq, and_true, true_and, List.nodup_nil, List.nodup_cons, List.not_mem_nil, not_false_eq_true, gSet, fr_un, fr_sh, fr_ow, eq_self, gTupD, gsCons, gsNil, loop_nx, loop_rt, wi_any, wk_l, wk_t, wk_c, wi_r1, wi_r2, asI1, asI2, rng_2, rng_4, isL, isDi, ap_M, tu_l, tu_t, ld_l, ld_t, len_l, len_t, len_c, len_ct, int_b, int_i, wb_yes, we_comp, isTn, forD_sh, ws_forD, we_compD, compD_sh, ko_k, ko_t, we_dget, we_dget2, is_dk, is_dt, wi_enu, as_L, Bool.not_true, Bool.not_false, Bool.and_self, Int.reduceAdd, Int.reduceSub, Int.reduceMul, Int.reduceNeg, Int.reducePow, Int.reduceToNat, Nat.reduceLT, Int.reduceLT, Int.reduceLE, Nat.reduceAdd, Nat.reduceSub, Nat.reduceLeDiff, Nat.reduceEqDiff, $[$xs:term],*])
theorem sum_nat {α : Type} (f : α → Nat) (xs : List α) : sumP [.lst (xs.map fun x => D.int ((f x : Nat) : Int))] = some (.sh (.int ((xs.map f).sum : Nat))) := by
  have e : (xs.map fun x => D.int ((f x : Nat) : Int)) = ((xs.map f).map fun n : Nat => (n : Int)).map D.int := by rw [List.map_map, List.map_map]; rfl
  have e2 : ∀ ns : List Nat, (ns.map fun n : Nat => (n : Int)).sum = ((ns.sum : Nat) : Int) := by
    intro ns
    induction ns with
    | nil => rfl
    | cons n r ih => rw [List.map_cons, List.sum_cons, List.sum_cons, ih]; omega
  rw [e]
  show ((intsD _).map fun ns => D.int ns.sum).map Res.sh = _
  rw [ints_map, ← e2]
  rfl
theorem rng_succ (lo : Int) (k : Nat) : rng lo (lo + (k + 1 : Nat)) = rng lo (lo + k) ++ [.int (lo + k)] := by
  unfold rng
  rw [show (lo + (k + 1 : Nat) - lo).toNat = k + 1 by omega, show (lo + (k : Int) - lo).toNat = k by omega, List.range_succ, List.map_append]
  rfl
theorem rng_cons {lo hi : Int} (h : lo < hi) : rng lo hi = .int lo :: rng (lo + 1) hi := by
  unfold rng
  rw [show (hi - lo).toNat = (hi - (lo + 1)).toNat + 1 by omega, List.range_succ_eq_map, List.map_cons, List.map_map]
  refine List.cons_eq_cons.mpr ⟨by simp, ?_⟩
  refine List.map_congr_left fun i _ => ?_
  show D.int _ = D.int _
  congr 1
  simp only [Nat.succ_eq_add_one]
  omega
theorem rng_end {lo hi : Int} (h : hi ≤ lo) : rng lo hi = [] := by
  unfold rng
  rw [show (hi - lo).toNat = 0 by omega]
  rfl
abbrev encN (ns : List Nat) : D := .lst (ns.map fun n : Nat => D.int n)
theorem encN_snoc (ns : List Nat) (n : Nat) : encN (ns ++ [n]) = .lst ((ns.map fun n : Nat => D.int n) ++ [.int n]) := by
  unfold encN
  rw [List.map_append]
  rfl
theorem at_encN {ws : List (List Nat)} {n k : Nat} (h : k ≤ n) : atI ((rowsL ws n).map fun n : Nat => D.int n) (k : Int) = some (.int (rowsN ws k)) := by
  refine ati_get ?_
  rw [List.getElem?_map, rowsL_get ws n k h]
  rfl
theorem count_of_rows_ok {ws : List (List Nat)} {n : Nat} (h : Mks ws) (hn : n ≤ 400) : Wp N0 (fcount_of_rows [.sh (encM ws), .sh (.int n)]) fun p => p = (.sh (.int (rowsN ws n)), [.sh (encM ws), .sh (.int n)]) := by
  have hl := h.most
  unfold fcount_of_rows ccount_of_rows
  rw [wp_run]
  walk_at "EL"
  refine (words_of_ok h).mono ?_
  rintro _ rfl
  walk_at "EL"
  rw [if_pos (show (0 : Int) ≤ n by omega), decide_eq_true (show (n : Int) ≤ 400 by omega)]
  walk_at "EL"
  refine ⟨by omega, ?_⟩
  refine wp_loop (fun ds ρ => ∃ (k : Nat) (s4 : Sl), k ≤ n ∧ s4.free = true ∧ ds = rng ((k : Int) + 1) ((n : Int) + 1) ∧ ρ = [.sh (encM ws), .sh (.int n), .sh (encW ws), .ow false (encN (rowsL ws k)), s4, .un]) ?_ ?_ _ _ ⟨0, .un, by omega, rfl, rfl, rfl⟩
  · rintro ρ ⟨k, s4, hk, f4, hd, rfl⟩
    have : k = n := by
      by_cases z : k < n
      · rw [rng_cons (by omega)] at hd
        cases hd
      · omega
    subst this
    row_walk with [at_encN (Nat.le_refl k)]
  · rintro d ds ρ ⟨k, s4, hk, f4, hd, rfl⟩
    have hlt : k < n := by
      by_cases z : k < n
      · exact z
      · rw [rng_end (by omega)] at hd
        cases hd
    rw [rng_cons (by omega)] at hd
    cases hd
    refine ⟨_, if_pos f4, ?_⟩
    row_walk with [List.length_map]
    refine ⟨⟨rfl, by omega⟩, ?_⟩
    refine (lc_filt (f := D.str) (g := fun w => D.int (((rowsL ws k).getD (k + 1 - w.length) 0 : Nat) : Int)) (p := fun w => decide (w.length ≤ k + 1)) rfl ws fun w hw => ?_).monoE ?_
    · walk_at "EL"
      have h1 := (h.all w hw).one; have h2 := (h.all w hw).most
      refine ⟨by omega, ?_, fun hp => ?_⟩
      · have : decide ((w.length : Int) ≤ (k : Int) + 1) = decide (w.length ≤ k + 1) := decide_eq_decide.mpr (by omega)
        rw [this]
      · refine ⟨by omega, ?_⟩
        have e : (k : Int) + 1 - w.length = ((k + 1 - w.length : Nat) : Int) := by omega
        rw [e, at_encN (by omega)]
        walk_at "EL"
        rw [List.getD_eq_getElem?_getD, rowsL_get ws k _ (by omega)]
        rfl
    · rintro _ rfl
      row_walk with [sum_nat, List.length_map, rowsL_len]
      refine ⟨by omega, k + 1, .sh (.int ((k : Int) + 1)), by omega, rfl, rfl, ?_⟩
      rw [rowsL, encN_snoc]
theorem due_inner {ws0 n0 : D} {ws1 : List (List Nat)} {k : Nat} : ∀ (ws : List (List Nat)), (∀ w ∈ ws, Mk w) → ∀ (acc : Nat) (s5 : Sl), s5.free = true →
    Wp N0 (loopFor (gSet 5) (sIf (bVal (eBin leP (eCallB lenP (lCons (eName 5) lNil)) (eName 3))) (sLet 4 (eBin addP (eName 4) (eBin gixP (eName 2) (eBin subP (eName 3) (eCallB lenP (lCons (eName 5) lNil)))))) sNil) (ws.map D.str) [.sh ws0, .sh n0, .ow false (encN (rowsL ws1 k)), .sh (.int ((k : Int) + 1)), .sh (.int acc), s5])
      fun x => ∃ s5 : Sl, s5.free = true ∧ x = .nx [.sh ws0, .sh n0, .ow false (encN (rowsL ws1 k)), .sh (.int ((k : Int) + 1)), .sh (.int ((acc + ((ws.filter fun w => decide (w.length ≤ k + 1)).map fun w => (rowsL ws1 k).getD (k + 1 - w.length) 0).sum : Nat) : Int)), s5]
  | [], _, acc, s5, f5 => ⟨s5, f5, rfl⟩
  | w :: ws, hw, acc, s5, f5 => by
    have h1 := (hw w List.mem_cons_self).one; have h2 := (hw w List.mem_cons_self).most
    have ih := due_inner (ws0 := ws0) (n0 := n0) (ws1 := ws1) (k := k) ws fun x hx => hw x (List.mem_cons_of_mem _ hx)
    rw [List.map_cons, lp_cons]
    have eg : gSet 5 (.str w) [.sh ws0, .sh n0, .ow false (encN (rowsL ws1 k)), .sh (.int ((k : Int) + 1)), .sh (.int acc), s5] = some [.sh ws0, .sh n0, .ow false (encN (rowsL ws1 k)), .sh (.int ((k : Int) + 1)), .sh (.int acc), .sh (.str w)] := if_pos f5
    rw [eg]
    walk_at "EL"
    refine ⟨by omega, ?_⟩
    by_cases z : w.length ≤ k + 1
    · rw [if_pos (show (w.length : Int) ≤ (k : Int) + 1 by omega), List.filter_cons_of_pos (by simpa using z), List.map_cons, List.sum_cons]
      refine ⟨by omega, ?_⟩
      have e : (k : Int) + 1 - w.length = ((k + 1 - w.length : Nat) : Int) := by omega
      rw [e, at_encN (by omega)]
      walk_at "EL"
      have := ih (acc + rowsN ws1 (k + 1 - w.length)) (.sh (.str w)) rfl
      have e2 : (rowsL ws1 k).getD (k + 1 - w.length) 0 = rowsN ws1 (k + 1 - w.length) := by
        rw [List.getD_eq_getElem?_getD, rowsL_get ws1 k _ (by omega)]
        rfl
      rw [e2]
      rw [← Nat.add_assoc]
      exact this
    · rw [if_neg (show ¬ (w.length : Int) ≤ (k : Int) + 1 by omega), List.filter_cons_of_neg (by simpa using z)]
      exact ih acc (.sh (.str w)) rfl
theorem rows_due_ok {ws : List (List Nat)} {n : Nat} (h : ∀ w ∈ ws, Mk w) (hn : n ≤ 1000) : Wp N0 (f_law_rows_due [.sh (encW ws), .sh (.int n)]) fun p => p = (.ow (encN (rowsL ws n)), [.sh (encW ws), .sh (.int n)]) := by
  unfold f_law_rows_due c_law_rows_due
  rw [wp_run]
  walk_at "EL"
  refine ⟨by omega, ?_⟩
  refine wp_loop (fun ds ρ => ∃ (k : Nat) (s3 s4 s5 : Sl), k ≤ n ∧ (s3.free = true ∧ s4.free = true ∧ s5.free = true) ∧ ds = rng ((k : Int) + 1) ((n : Int) + 1) ∧ ρ = [.sh (encW ws), .sh (.int n), .ow false (encN (rowsL ws k)), s3, s4, s5]) ?_ ?_ _ _ ⟨0, .un, .un, .un, by omega, ⟨rfl, rfl, rfl⟩, rfl, rfl⟩
  · rintro ρ ⟨k, s3, s4, s5, hk, _, hd, rfl⟩
    have : k = n := by
      by_cases z : k < n
      · rw [rng_cons (by omega)] at hd
        cases hd
      · omega
    subst this
    walk_at "EL"
  · rintro d ds ρ ⟨k, s3, s4, s5, hk, ⟨f3, f4, f5⟩, hd, rfl⟩
    have hlt : k < n := by
      by_cases z : k < n
      · exact z
      · rw [rng_end (by omega)] at hd
        cases hd
    rw [rng_cons (by omega)] at hd
    cases hd
    refine ⟨_, if_pos f3, ?_⟩
    row_walk with [store_gen f4]
    refine (due_inner (k := k) ws h 0 s5 f5).mono ?_
    rintro _ ⟨s5', f5', rfl⟩
    row_walk with [List.length_map, rowsL_len]
    refine ⟨by omega, k + 1, .sh (.int ((k : Int) + 1)), ?s4, s5', by omega, ⟨rfl, ?f4, f5'⟩, rfl, ?e⟩
    case e =>
      rw [rowsL, encN_snoc, Nat.zero_add]
    case f4 => rfl
theorem whole_int {i : Int} : Wp N0 (f_law_whole [.sh (.int i)]) fun p => p = (.sh (.bl true), [.sh (.int i)]) := by
  unfold f_law_whole c_law_whole
  rw [wp_run]
  wide_open with [isTn]
theorem of_letters_lr {w : List Nat} (hw : LR w) (hl : w.length ≤ 100000) : Wp N0 (f_law_of_letters [.sh (.str w)]) fun p => p = (.sh (dT (tabW w)), [.sh (.str w)]) := of_letters_ok hw.isLet hl
end QL

end
section
set_option maxHeartbeats 1000000
/-! the least row: plain Lean -/
namespace QL
open PySem PySem.Spec L2 QW
theorem best_zero {ws : List (List Nat)} (hw : ∀ w ∈ ws, w ≠ []) {t : List Nat} (h : (restT ws t).1 = some 0) : t = [] := by
  have b := best_ok hw _ t (Nat.le_refl _)
  rw [h] at b
  have b1 : 0 < cntL ws 0 t := b.1
  cases t with
  | nil => rfl
  | cons c t =>
    have : cntL ws 0 (c :: t) = 0 := rfl
    omega
theorem sum_pos {α : Type} {f : α → Nat} : ∀ {xs : List α}, 0 < (xs.map f).sum → ∃ x ∈ xs, 0 < f x
  | [], h => absurd h (by simp)
  | x :: xs, h => by
    rw [List.map_cons, List.sum_cons] at h
    by_cases z : 0 < f x
    · exact ⟨x, List.mem_cons_self, z⟩
    · obtain ⟨y, hy, h2⟩ := sum_pos (f := f) (xs := xs) (by omega)
      exact ⟨y, List.mem_cons_of_mem _ hy, h2⟩
theorem le_sum {α : Type} {f : α → Nat} {x : α} : ∀ {xs : List α}, x ∈ xs → f x ≤ (xs.map f).sum
  | [], h => absurd h List.not_mem_nil
  | y :: xs, h => by
    rw [List.map_cons, List.sum_cons]
    rcases List.mem_cons.mp h with rfl | h
    · omega
    · have := le_sum (f := f) h
      omega
def goodK (ws : List (List Nat)) (t : List Nat) (b : Nat) (w : List Nat) : Bool := w.isPrefixOf t && decide ((restT ws (t.drop w.length)).1 = some b)
theorem best_step {ws : List (List Nat)} (hw : ∀ w ∈ ws, w ≠ []) {t : List Nat} {b : Nat} (h : (restT ws t).1 = some (b + 1)) : ∃ w ∈ ws, goodK ws t b w = true := by
  have hb := best_ok hw _ t (Nat.le_refl _)
  rw [h] at hb
  have h1 : 0 < cntL ws (b + 1) t := hb.1
  have h2 := hb.2
  obtain ⟨w, hm, hp⟩ := sum_pos h1
  have hpre : w.isPrefixOf t = true := by
    by_cases z : w.isPrefixOf t = true
    · exact z
    · rw [if_neg z] at hp; omega
  rw [if_pos hpre] at hp
  refine ⟨w, hm, ?_⟩
  unfold goodK
  rw [hpre, Bool.true_and, decide_eq_true_eq]
  have hd := best_ok hw _ (t.drop w.length) (Nat.le_refl _)
  have lift : ∀ L, 0 < cntL ws L (t.drop w.length) → 0 < cntL ws (L + 1) t := fun L hL => by
    have := le_sum (f := fun w => if w.isPrefixOf t = true then cntL ws L (t.drop w.length) else 0) hm
    simp only [hpre, if_true] at this
    exact Nat.lt_of_lt_of_le hL this
  cases e : (restT ws (t.drop w.length)).1 with
  | none =>
    rw [e] at hd
    have z : cntL ws b (t.drop w.length) = 0 := hd b
    omega
  | some c =>
    rw [e] at hd
    have c1 : 0 < cntL ws c (t.drop w.length) := hd.1
    have c2 := hd.2
    have g1 : ¬ c < b := fun z => by
      have y : cntL ws (c + 1) t = 0 := h2 (c + 1) (by omega)
      have := lift c c1
      omega
    have g2 : ¬ b < c := fun z => by
      have y : cntL ws b (t.drop w.length) = 0 := c2 b z
      omega
    congr 1
    omega
theorem good_lift {ws : List (List Nat)} (hw : ∀ w ∈ ws, w ≠ []) {t w : List Nat} (hm : w ∈ ws) (hp : w.isPrefixOf t = true) (h : (restT ws (t.drop w.length)).1 ≠ none) : (restT ws t).1 ≠ none := fun z => by
  have hb := best_ok hw _ t (Nat.le_refl _)
  rw [z] at hb
  have hd := best_ok hw _ (t.drop w.length) (Nat.le_refl _)
  cases e : (restT ws (t.drop w.length)).1 with
  | none => exact h e
  | some c =>
    rw [e] at hd
    have c1 : 0 < cntL ws c (t.drop w.length) := hd.1
    have := le_sum (f := fun w => if w.isPrefixOf t = true then cntL ws c (t.drop w.length) else 0) hm
    simp only [hp, if_true] at this
    have z2 : cntL ws (c + 1) t = 0 := hb (c + 1)
    have z3 : cntL ws (c + 1) t = (ws.map fun w => if w.isPrefixOf t = true then cntL ws c (t.drop w.length) else 0).sum := rfl
    omega
/-- the first maker from which as few make the rest -/
def firstK (ws : List (List Nat)) (t : List Nat) (b : Nat) : Nat := ws.findIdx (goodK ws t b)
theorem firstK_ok {ws : List (List Nat)} (hw : ∀ w ∈ ws, w ≠ []) {t : List Nat} {b : Nat} (h : (restT ws t).1 = some (b + 1)) : ∃ w, ws[firstK ws t b]? = some w ∧ w.isPrefixOf t = true ∧ (restT ws (t.drop w.length)).1 = some b := by
  obtain ⟨w, hm, hg⟩ := best_step hw h
  have hlt : firstK ws t b < ws.length := List.findIdx_lt_length_of_exists ⟨w, hm, hg⟩
  refine ⟨_, List.getElem?_eq_getElem hlt, ?_⟩
  have := List.findIdx_getElem (w := hlt)
  unfold goodK at this
  rw [Bool.and_eq_true, decide_eq_true_eq] at this
  exact this
def greedy (ws : List (List Nat)) : Nat → List Nat → List Nat
  | 0, _ => []
  | b + 1, t => firstK ws t b :: greedy ws b (t.drop (ws.getD (firstK ws t b) []).length)
def rowT (ws : List (List Nat)) (t : List Nat) : Option (List Nat) := (restT ws t).1.map fun b => greedy ws b t
/-- the words of a row, one behind the other -/
def catR (ws : List (List Nat)) (row : List Nat) : List Nat := (row.map fun k => ws.getD k []).flatten
theorem greedy_ok {ws : List (List Nat)} (hw : ∀ w ∈ ws, w ≠ []) : ∀ (b : Nat) (t : List Nat), (restT ws t).1 = some b → (greedy ws b t).length = b ∧ catR ws (greedy ws b t) = t ∧ ∀ k ∈ greedy ws b t, k < ws.length
  | 0, t, h => by
    rw [best_zero hw h]
    exact ⟨rfl, rfl, fun k hk => absurd hk List.not_mem_nil⟩
  | b + 1, t, h => by
    obtain ⟨w, e, hp, hr⟩ := firstK_ok hw h
    have hlt := (List.getElem?_eq_some_iff.mp e).1
    have eg : ws.getD (firstK ws t b) [] = w := by rw [List.getD_eq_getElem?_getD, e]; rfl
    have ih := greedy_ok hw b (t.drop w.length) hr
    have ex : greedy ws (b + 1) t = firstK ws t b :: greedy ws b (t.drop w.length) := by
      show firstK ws t b :: greedy ws b (t.drop (ws.getD (firstK ws t b) []).length) = _
      rw [eg]
    rw [ex]
    refine ⟨by rw [List.length_cons, ih.1], ?_, fun k hk => ?_⟩
    · unfold catR
      rw [List.map_cons, List.flatten_cons, eg]
      have := ih.2.1
      unfold catR at this
      rw [this]
      obtain ⟨a, rfl⟩ := List.isPrefixOf_iff_prefix.mp hp
      rw [List.drop_left]
    · rcases List.mem_cons.mp hk with rfl | hk
      · exact hlt
      · exact ih.2.2 k hk
/-! the fewest by a list of numbers -/
theorem fold_better : ∀ (cs : List Nat) (a : Option Nat), cs.foldl better a = (match a with | some x => some (cs.foldl min x) | none => cs.min?)
  | [], a => by cases a <;> rfl
  | c :: cs, a => by
    rw [List.foldl_cons, fold_better cs]
    cases a with
    | none =>
      show some (cs.foldl min c) = _
      rfl
    | some x =>
      have e : better (some x) c = some (min x c) := by
        show (if c < x then some c else some x) = _
        split <;> (congr 1; omega)
      rw [e]
      rfl
theorem fold_min (cs : List Nat) : cs.foldl better none = cs.min? := fold_better cs none
def cand (t : List Nat) (r : List (Option Nat × Nat)) (w : List Nat) : Option Nat := if w.isPrefixOf t = true then (r[w.length - 1]?).bind fun p => p.1.map (· + 1) else none
theorem best_min (t : List Nat) (r : List (Option Nat × Nat)) : ∀ (ws : List (List Nat)) (acc : Option Nat × Nat), (ws.foldl (stepW t r) acc).1 = (ws.filterMap (cand t r)).foldl better acc.1
  | [], acc => rfl
  | w :: ws, acc => by
    rw [List.foldl_cons, best_min t r ws]
    unfold stepW cand
    by_cases hp : w.isPrefixOf t = true
    · rw [if_pos hp]
      cases q : r[w.length - 1]? with
      | none => rw [List.filterMap_cons]; simp [hp, q]
      | some p =>
        obtain ⟨o, m⟩ := p
        cases o with
        | none => rw [List.filterMap_cons]; simp [hp, q]
        | some k => rw [List.filterMap_cons]; simp [hp, q]
    · rw [if_neg hp, List.filterMap_cons]
      simp [hp]
theorem filterMap_same {α β : Type} {f g : α → Option β} : ∀ {xs : List α}, (∀ x ∈ xs, f x = g x) → xs.filterMap f = xs.filterMap g
  | [], _ => rfl
  | x :: xs, h => by
    rw [List.filterMap_cons, List.filterMap_cons, h x List.mem_cons_self, filterMap_same fun y hy => h y (List.mem_cons_of_mem _ hy)]
/-! the counts from the beginning on -/
def cF (ws : List (List Nat)) (t : List Nat) (k : Nat) : Option Nat × Nat := restT (ws.map List.reverse) (t.take k).reverse
theorem cF_rest {ws : List (List Nat)} (hw : ∀ w ∈ ws, w ≠ []) (t : List Nat) (k : Nat) : cF ws t k = restT ws (t.take k) := restT_rev hw _
theorem suf_pre (u w : List Nat) : w.reverse.isPrefixOf u.reverse = w.isSuffixOf u := by
  unfold List.isSuffixOf
  rfl
/-- at a place: the ends of words there, and what is reckoned of them -/
theorem cF_succ {ws : List (List Nat)} (hw : ∀ w ∈ ws, w ≠ []) {t : List Nat} {k : Nat} (hk : k + 1 ≤ t.length) :
    cF ws t (k + 1) = (((ws.filter fun w => w.isSuffixOf (t.take (k + 1))).filterMap fun w => (cF ws t (k + 1 - w.length)).1.map (· + 1)).min?, ((ws.filter fun w => w.isSuffixOf (t.take (k + 1))).map fun w => (cF ws t (k + 1 - w.length)).2).sum) := by
  have hlen : (t.take (k + 1)).length = k + 1 := by rw [List.length_take]; omega
  obtain ⟨c, u, hu⟩ : ∃ c u, (t.take (k + 1)).reverse = c :: u := by
    cases e : (t.take (k + 1)).reverse with
    | nil => have := congrArg List.length e; rw [List.length_reverse, hlen] at this; simp at this
    | cons c u => exact ⟨c, u, rfl⟩
  have hul : u.length = k := by
    have := congrArg List.length hu
    rw [List.length_reverse, hlen, List.length_cons] at this
    omega
  have hd : ∀ w ∈ ws, w.isSuffixOf (t.take (k + 1)) = true → u.drop (w.reverse.length - 1) = (t.take (k + 1 - w.length)).reverse ∧ w.reverse.length - 1 ≤ u.length := fun w hm hs => by
    have h0 : 0 < w.length := List.length_pos_iff.mpr (hw w hm)
    have hle := (List.isSuffixOf_iff_suffix.mp hs).length_le
    rw [hlen] at hle
    rw [List.length_reverse]
    refine ⟨?_, by omega⟩
    have e1 : u.drop (w.length - 1) = (c :: u).drop w.length := by
      rw [show w.length = (w.length - 1) + 1 by omega]
      rfl
    rw [e1, ← hu, List.drop_reverse, hlen, List.take_take, Nat.min_eq_left (by omega)]
  unfold cF
  rw [hu, restT_cons]
  refine Prod.ext ?_ ?_
  · show (List.foldl (stepW (c :: u) (rests (ws.map List.reverse) u)) (none, 0) (ws.map List.reverse)).1 = _
    rw [best_min, fold_min]
    congr 1
    rw [List.filterMap_map, List.filterMap_filter]
    refine filterMap_same fun w hm => ?_
    show cand (c :: u) _ w.reverse = _
    unfold cand
    rw [← hu, suf_pre]
    split
    · rename_i hs
      obtain ⟨e1, e2⟩ := hd w hm hs
      rw [rests_at _ _ _ e2, e1]
      rfl
    · rfl
  · show (List.foldl (stepW (c :: u) (rests (ws.map List.reverse) u)) (none, 0) (ws.map List.reverse)).2 = _
    rw [cnt_fold, Nat.zero_add, List.map_map]
    have aux : ∀ vs : List (List Nat), (∀ w ∈ vs, w ∈ ws) → (vs.map ((fun w => if w.isPrefixOf (c :: u) = true then (((rests (ws.map List.reverse) u)[w.length - 1]?).map (·.2)).getD 0 else 0) ∘ List.reverse)).sum = ((vs.filter fun w => w.isSuffixOf (t.take (k + 1))).map fun w => (restT (ws.map List.reverse) (t.take (k + 1 - w.length)).reverse).2).sum := by
      intro vs
      induction vs with
      | nil => intro _; rfl
      | cons w vs ih =>
        intro h
        rw [List.map_cons, List.sum_cons, ih fun x hx => h x (List.mem_cons_of_mem _ hx)]
        show (if w.reverse.isPrefixOf (c :: u) = true then _ else 0) + _ = _
        rw [← hu, suf_pre]
        by_cases hs : w.isSuffixOf (t.take (k + 1)) = true
        · obtain ⟨e1, e2⟩ := hd w (h w List.mem_cons_self) hs
          rw [if_pos hs, List.filter_cons_of_pos (p := fun w : List Nat => w.isSuffixOf (t.take (k + 1))) hs, List.map_cons, List.sum_cons, rests_at _ _ _ e2, e1]
          rfl
        · rw [if_neg hs, List.filter_cons_of_neg (p := fun w : List Nat => w.isSuffixOf (t.take (k + 1))) hs, Nat.zero_add]
    exact aux ws fun _ h => h
end QL

end
section
set_option maxHeartbeats 1000000
/-! the least row, the places, the counts from the beginning -/
namespace QL
open PySem PySem.Spec L2 QW
local macro_rules | `(tactic| walk_at "EI") => `(tactic| simp only [ws_raise, ws_try, ws_tryR, we_mtS, as_e, as_str, D.asI, wo_none, wo_some, we_slice, wp_exc, ws_seq, ws_nil, ws_let, ws_set, ws_ret, ws_asg, ws_par, par_2, next_nx, ws_expr, ws_sub, ws_for, then_nx, then_rt, let_sh, let_ow, set_sh, set_ow, store_un, store_sh, store_ow, ret_sh, ret_ow, ret_al, back_sh, back_ow, own_ow, run_nx, run_rt, wb_val, bl_is, wb_and, wb_or, wb_not, ds_e, ds_l, ds_r, ds_lr, ds_u, ds_v, ds_U, ds_V, ds_uv, ds_uvUV, ds_mi, ds_n0, ds_n1, ds_co, ds_sl, ds_bl, ds_rr, ds_rrr, ds_ll, we_bin, we_chain, chain_b, we_un, we_if, we_and, we_or, we_not, we_name, slot_sh, slot_ow, we_share, share_sh, share_ow, we_c, we_tup, we_lst, we_callB, we_isT, we_call, we_mut, wl_nil, wl_cons, wp_bind, wp_ok, wp_opt, at_some, at_map, List.map_cons, List.map_nil, Ar.sl, List.length_cons, List.length_nil, List.cons_append, List.nil_append, List.getElem?_cons_zero, List.getElem?_cons_succ, List.set_cons_zero, List.set_cons_succ, Res.get, Res.own, owns, gets, argsOf, lentS, backS, Ar.res, outsOf, Option.map_some, Option.bind_some, Bool.true_eq_false, Bool.false_eq_true, if_true, if_false, g_lst, g_tup, g_clst, g_ctup, s_lst, p_add, p_sub, p_mul, p_mod, p_fdiv, p_pow, p_neg, p_lt, p_le, p_gt, p_ge, p_eqI, p_neI, p_mulT, p_mulL, p_addT, p_addL, p_slT, p_slL, p_start, p_start3, p_end, p_lenT, p_abs, p_ii_max, p_ii_min, Res.norm, ix_0, ix_1, ix_2, ix_3, n3_0, n3_1, n3_2, List.replicate, decide_eq_true_eq, and_true, true_and, List.nodup_nil, List.nodup_cons, List.not_mem_nil, not_false_eq_true, gSet, fr_un, fr_sh, fr_ow, eq_self, gTupD, gsCons, gsNil, loop_nx, loop_rt, wi_any, wk_l, wk_t, wk_c, wi_r1, wi_r2, asI1, asI2, rng_2, rng_4, isL, isDi, ap_M, tu_l, tu_t, ld_l, ld_t, len_l, len_t, len_c, len_ct, int_b, int_i, wb_yes, we_comp, isTn, forD_sh, ws_forD, we_compD, compD_sh, ko_k, ko_t, we_dget, we_dget2, is_dk, is_dt, wi_enu, as_L, Bool.not_true, Bool.not_false, Bool.and_self, Int.reduceAdd, Int.reduceSub, Int.reduceMul, Int.reduceNeg, Int.reducePow, Int.reduceToNat, Nat.reduceLT, Int.reduceLT, Int.reduceLE, Nat.reduceAdd, Nat.reduceSub, Nat.reduceLeDiff, Nat.reduceEqDiff])
local macro_rules | `(tactic| row_walk with [$xs,*]) => `(tactic| simp only [ws_raise, ws_try, ws_tryR, we_mtS, as_e, as_str, D.asI, wo_none, wo_some, we_slice, wp_exc, ws_seq, ws_if, ws_nil, ws_let, ws_set, ws_ret, ws_asg, ws_par, par_2, next_nx, ws_expr, ws_sub, ws_for, then_nx, then_rt, let_sh, let_ow, set_sh, set_ow, store_un, store_sh, store_ow, ret_sh, ret_ow, ret_al, back_sh, back_ow, own_ow, run_nx, run_rt, wb_val, bl_is, wb_and, wb_or, wb_not, ds_e, ds_l, ds_r, ds_lr, ds_u, ds_v, ds_U, ds_V, ds_uv, ds_uvUV, ds_mi, ds_n0, ds_n1, ds_co, ds_sl, ds_bl, ds_rr, ds_rrr, ds_ll, we_bin, we_chain, chain_b, we_un, we_if, we_and, we_or, we_not, we_name, slot_sh, slot_ow, we_share, share_sh, share_ow, we_c, we_tup, we_lst, we_callB, we_isT, we_call, we_mut, wl_nil, wl_cons, wp_bind, wp_ok, wp_opt, at_some, at_map, List.map_cons, List.map_nil, Ar.sl, List.length_cons, List.length_nil, List.cons_append, List.nil_append, List.getElem?_cons_zero, List.getElem?_cons_succ, List.set_cons_zero, List.set_cons_succ, Res.get, Res.own, owns, gets, argsOf, lentS, backS, Ar.res, outsOf, Option.map_some, Option.bind_some, Bool.true_eq_false, Bool.false_eq_true, if_true, if_false, g_lst, g_tup, g_clst, g_ctup, s_lst, p_add, p_sub, p_mul, p_mod, p_fdiv, p_pow, p_neg, p_lt, p_le, p_gt, p_ge, p_eqI, p_neI, p_mulT, p_mulL, p_addT, p_addL, p_slT, p_slL, p_start, p_start3, p_end, p_lenT, p_abs, p_ii_max, p_ii_min, Res.norm, ix_0, ix_1, ix_2, ix_3, n3_0, n3_1, n3_2, List.replicate, decide_eq_true_eq, and_true, true_and, List.nodup_nil, List.nodup_cons, List.not_mem_nil, not_false_eq_true, gSet, fr_un, fr_sh, fr_ow, eq_self, gTupD, gsCons, gsNil, loop_nx, loop_rt, wi_any, wk_l, wk_t, wk_c, wi_r1, wi_r2, asI1, asI2, rng_2, rng_4, isL, isDi, ap_M, tu_l, tu_t, ld_l, ld_t, len_l, len_t, len_c, len_ct, int_b, int_i, wb_yes, we_comp, isTn, forD_sh, ws_forD, we_compD, compD_sh, ko_k, ko_t, we_dget, we_dget2, is_dk, is_dt, wi_enu, as_L, Bool.not_true, Bool.not_false, Bool.and_self, Int.reduceAdd, Int.reduceSub, Int.reduceMul, Int.reduceNeg, Int.reducePow, Int.reduceToNat, Nat.reduceLT, Int.reduceLT, Int.reduceLE, Nat.reduceAdd, Nat.reduceSub, Nat.reduceLeDiff, Nat.reduceEqDiff, $[$xs:term],*])
local macro_rules | `(tactic| wide_line with [$xs,*]) => `(tactic| simp only [ws_raise, ws_try, ws_tryR, we_mtS, as_e, as_str, D.asI, wo_none, wo_some, we_slice, wp_exc, ws_seq, ws_nil, ws_let, ws_set, ws_ret, ws_asg, ws_par, par_2, next_nx, ws_expr, ws_sub, ws_for, then_nx, then_rt, let_sh, let_ow, set_sh, set_ow, store_un, store_sh, store_ow, ret_sh, ret_ow, ret_al, back_sh, back_ow, own_ow, run_nx, run_rt, wb_val, bl_is, wb_and, wb_or, wb_not, ds_e, ds_l, ds_r, ds_lr, ds_u, ds_v, ds_U, ds_V, ds_uv, ds_uvUV, ds_mi, ds_n0, ds_n1, ds_co, ds_sl, ds_bl, ds_rr, ds_rrr, ds_ll, we_bin, we_chain, chain_b, we_un, we_if, we_and, we_or, we_not, we_name, slot_sh, slot_ow, we_share, share_sh, share_ow, we_c, we_tup, we_lst, we_callB, we_isT, we_call, we_mut, wl_nil, wl_cons, wp_bind, wp_ok, wp_opt, at_some, at_map, List.map_cons, List.map_nil, Ar.sl, List.length_cons, List.length_nil, List.cons_append, List.nil_append, List.getElem?_cons_zero, List.getElem?_cons_succ, List.set_cons_zero, List.set_cons_succ, Res.get, Res.own, owns, gets, argsOf, lentS, backS, Ar.res, outsOf, Option.map_some, Option.bind_some, Bool.true_eq_false, Bool.false_eq_true, if_true, if_false, g_lst, g_tup, g_clst, g_ctup, s_lst, p_add, p_sub, p_mul, p_mod, p_fdiv, p_pow, p_neg, p_lt, p_le, p_gt, p_ge, p_eqI, p_neI, p_mulT, p_mulL, p_addT, p_addL, p_slT, p_slL, p_start, p_start3, p_end, p_lenT, p_abs, p_ii_max, p_ii_min, Res.norm, ix_0, ix_1, ix_2, ix_3, n3_0, n3_1, n3_2, List.replicate, decide_eq_true_eq, and_true, true_and, List.nodup_nil, List.nodup_cons, List.not_mem_nil, not_false_eq_true, gSet, fr_un, fr_sh, fr_ow, eq_self, gTupD, gsCons, gsNil, loop_nx, loop_rt, wi_any, wk_l, wk_t, wk_c, wi_r1, wi_r2, asI1, asI2, rng_2, rng_4, isL, isDi, ap_M, tu_l, tu_t, ld_l, ld_t, len_l, len_t, len_c, len_ct, int_b, int_i, wb_yes, we_comp, isTn, forD_sh, ws_forD, we_compD, compD_sh, ko_k, ko_t, we_dget, we_dget2, is_dk, is_dt, wi_enu, as_L, Bool.not_true, Bool.not_false, Bool.and_self, Int.reduceAdd, Int.reduceSub, Int.reduceMul, Int.reduceNeg, Int.reducePow, Int.reduceToNat, Nat.reduceLT, Int.reduceLT, Int.reduceLE, Nat.reduceAdd, Nat.reduceSub, Nat.reduceLeDiff, Nat.reduceEqDiff, $[$xs:term],*])
theorem nat_some {a b : Nat} : decide ((a : Int) = (b : Int)) = decide (some a = some b) := decide_eq_decide.mpr ⟨fun h => by rw [Int.ofNat_inj.mp h], fun h => by cases h; rfl⟩
theorem ne_encO {o : Option Nat} {b : Nat} : neP (encO o) (.int ((b : Int) + 1 - 1)) = some (.sh (.bl (!decide (o = some b)))) := by
  rw [show (b : Int) + 1 - 1 = b by omega]
  cases o with
  | none => rfl
  | some a =>
    rw [show neP (encO (some a)) (.int b) = some (.sh (.bl (!((a : Int) == (b : Int))))) from rfl, int_beq]
    rw [nat_some]
theorem eq_encO {o : Option Nat} {b : Nat} : eqP (encO o) (.int ((b : Int) + 1 - 1)) = some (.sh (.bl (decide (o = some b)))) := by
  rw [show (b : Int) + 1 - 1 = b by omega]
  cases o with
  | none => rfl
  | some a =>
    rw [show eqP (encO (some a)) (.int b) = some (.sh (.bl ((a : Int) == (b : Int)))) from rfl, int_beq]
    rw [nat_some]
theorem at_rests {ws : List (List Nat)} {t : List Nat} {k : Nat} (h : k ≤ t.length) : atI ((rests ws t).map encP) (k : Int) = some (encP (restT ws (t.drop k))) := by
  refine ati_get ?_
  rw [List.getElem?_map, rests_at ws t k h]
  rfl
theorem at_words {ws : List (List Nat)} {k : Nat} {w : List Nat} (h : ws[k]? = some w) : atI (ws.map D.str) (k : Int) = some (.str w) := by
  refine ati_get ?_
  rw [List.getElem?_map, h]
  rfl
theorem row_for_ok {ws : List (List Nat)} {t : List Nat} (hw : ∀ w ∈ ws, Mk w) (hl : ws.length ≤ 8) (ht : t.length ≤ 100000) : Wp N0 (frow_for [.sh (encW ws), .sh (.str t)]) fun p => p = (match rowT ws t with | none => .sh .non | some r => .ow (encN r), [.sh (encW ws), .sh (.str t)]) := by
  have hne : ∀ w ∈ ws, w ≠ [] := fun w h => List.length_pos_iff.mp (hw w h).one
  unfold frow_for crow_for
  rw [wp_run]
  walk_at "EI"
  refine (rest_rows_ok hw hl ht).mono ?_
  rintro _ rfl
  have h0 : atI ((rests ws t).map encP) 0 = some (encP (restT ws t)) := by
    have := at_rests (ws := ws) (t := t) (k := 0) (Nat.zero_le _)
    rwa [List.drop_zero] at this
  unfold rowT
  cases e0 : (restT ws t).1 with
  | none =>
    row_walk with [h0, e0, is_non]
    rfl
  | some b0 =>
    row_walk with [h0, e0, is_non]
    rw [if_neg (by simp)]
    refine ws_while.mpr ?_
    refine wp_while (I := fun ρ => ∃ (pre u : List Nat) (b : Nat) (row : List Nat) (s5 : Sl), pre ++ u = t ∧ (restT ws u).1 = some b ∧ row ++ greedy ws b u = greedy ws b0 t ∧ row.length ≤ pre.length ∧ s5.free = true ∧ ρ = [.sh (encW ws), .sh (.str t), .sh (encR (rests ws t)), .ow false (encN row), .sh (.int pre.length), s5]) (μ := fun ρ => t.length - (slInt 4 ρ).toNat) ?_ _ _ ⟨[], t, b0, [], .un, rfl, e0, rfl, Nat.le_refl _, rfl, rfl⟩ (show t.length - (Int.toNat 0) < 1000000000 by omega)
    rintro ρ ⟨pre, u, b, row, s5, hpu, hb, hrow, hrl, f5, rfl⟩
    have hlen : t.length = pre.length + u.length := by rw [← hpu, List.length_append]
    have hdrop : t.drop pre.length = u := by rw [← hpu, List.drop_left]
    walk_at "EI"
    refine ⟨by omega, ?_⟩
    by_cases hu : u = []
    · subst hu
      rw [if_neg (show ¬ (pre.length : Int) < t.length by rw [hlen]; simp)]
      have : b = 0 := by
        have : (restT ws []).1 = some 0 := rfl
        rw [this] at hb
        exact (Option.some.inj hb).symm
      subst this
      have e1 : row = greedy ws b0 t := by rw [← hrow]; exact (List.append_nil row).symm
      rw [e1]
    · have hul : 0 < u.length := List.length_pos_iff.mpr hu
      rw [if_pos (show (pre.length : Int) < t.length by omega)]
      cases b with
      | zero => exact absurd (best_zero hne hb) hu
      | succ b =>
        obtain ⟨w, hk, hp, hr⟩ := firstK_ok hne hb
        have hklt := (List.getElem?_eq_some_iff.mp hk).1
        have hwm : w ∈ ws := List.mem_of_getElem? hk
        have mw := hw w hwm
        have mw1 := mw.one
        wide_line with [store_gen f5]
        refine ws_while.mpr ?_
        have hat := at_rests (ws := ws) (t := t) (k := pre.length) (by omega)
        rw [hdrop] at hat
        refine wp_while (I := fun ρ => ∃ k : Nat, k ≤ firstK ws u b ∧ ρ = [.sh (encW ws), .sh (.str t), .sh (encR (rests ws t)), .ow false (encN row), .sh (.int pre.length), .sh (.int k)]) (μ := fun ρ => ws.length - (slInt 5 ρ).toNat) ?_ _ _ ⟨0, Nat.zero_le _, rfl⟩ (show ws.length - (Int.toNat 0) < 1000000000 by omega)
        rintro ρ ⟨k, hkle, rfl⟩
        obtain ⟨v, hv⟩ : ∃ v, ws[k]? = some v := ⟨ws[k]'(by omega), List.getElem?_eq_getElem (by omega)⟩
        have mv := hw v (List.mem_of_getElem? hv)
        wide_line with [at_words hv, Int.toNat_natCast, stands_pre (show pre.length ≤ t.length by omega), hdrop]
        refine ⟨by omega, ?_⟩
        have goOn : goodK ws u b v = false → k < firstK ws u b := fun hg => by
          rcases Nat.lt_or_eq_of_le hkle with z | z
          · exact z
          · rw [z, hk] at hv
            cases hv
            unfold goodK at hg
            rw [hp, Bool.true_and, decide_eq_false_iff_not] at hg
            exact absurd hr hg
        by_cases hpv : v.isPrefixOf u = true
        · have hle := (List.isPrefixOf_iff_prefix.mp hpv).length_le
          have hat2 := at_rests (ws := ws) (t := t) (k := pre.length + v.length) (by omega)
          rw [← List.drop_drop, hdrop, Int.natCast_add] at hat2
          rw [hpv]
          have hbn : encO (restT ws u).1 = .int ((b : Int) + 1) := by rw [hb]; rfl
          have mv2 := mv.most
          wide_line with [at_words hv, hat2, hat, hbn, ne_encO]
          refine ⟨by omega, ?_⟩
          by_cases hg : (restT ws (u.drop v.length)).1 = some b
          · rw [decide_eq_true hg]
            -- found
            have hkk : k = firstK ws u b := by
              rcases Nat.lt_or_eq_of_le hkle with z | z
              · have := List.not_of_lt_findIdx z
                have e : ws[k]'(by omega) = v := (List.getElem?_eq_some_iff.mp hv).2
                rw [e] at this
                unfold goodK at this
                rw [hpv, hg] at this
                simp at this
              · exact z
            have hvw : v = w := by rw [hkk, hk] at hv; exact (Option.some.inj hv).symm
            subst hvw
            wide_line with [at_words hv, List.length_map]
            refine ⟨by omega, by omega, ⟨pre ++ v, u.drop v.length, b, row ++ [k], .sh (.int k), ?_, hg, ?_, ?_, rfl, ?_⟩, ?_⟩
            · obtain ⟨a, rfl⟩ := List.isPrefixOf_iff_prefix.mp hpv
              rw [List.drop_left, List.append_assoc, hpu]
            · rw [← hrow, List.append_assoc]
              congr 1
              show k :: greedy ws b (u.drop v.length) = firstK ws u b :: greedy ws b (u.drop (ws.getD (firstK ws u b) []).length)
              rw [← hkk, List.getD_eq_getElem?_getD, hv]
              rfl
            · rw [List.length_append, List.length_append, List.length_cons, List.length_nil]
              have := mv.one
              omega
            · rw [encN_snoc, List.length_append, Int.natCast_add]
            · show t.length - (((pre.length : Int) + v.length).toNat) < t.length - ((pre.length : Int).toNat)
              have := mv.one
              omega
          · rw [decide_eq_false hg]
            have hk2 := goOn (by unfold goodK; rw [hpv, Bool.true_and, decide_eq_false hg])
            walk_at "EI"
            refine ⟨⟨k + 1, hk2, rfl⟩, ?_⟩
            show ws.length - (((k : Int) + 1).toNat) < ws.length - ((k : Int).toNat)
            omega
        · rw [show v.isPrefixOf u = false from Bool.not_eq_true _ ▸ hpv]
          have hk2 := goOn (by unfold goodK; rw [show v.isPrefixOf u = false from Bool.not_eq_true _ ▸ hpv]; rfl)
          walk_at "EI"
          refine ⟨⟨k + 1, hk2, rfl⟩, ?_⟩
          show ws.length - (((k : Int) + 1).toNat) < ws.length - ((k : Int).toNat)
          omega
theorem least_row_ok {ws : List (List Nat)} {t : List Nat} (h : Mks ws) (ht : LR t) (hl : t.length ≤ 400) : Wp N0 (fleast_row [.sh (encM ws), .sh (dT (tabW t))]) fun p => p = (match rowT ws t with | none => .sh .non | some r => .ow (encN r), [.sh (encM ws), .sh (dT (tabW t))]) := by
  unfold fleast_row cleast_row
  rw [wp_run]
  walk_at "EI"
  refine (words_of_ok h).mono ?_
  rintro _ rfl
  walk_at "EI"
  refine (word_of_fit ht hl).mono ?_
  rintro _ rfl
  walk_at "EI"
  refine (row_for_ok h.all h.most (by omega)).mono ?_
  rintro _ rfl
  cases rowT ws t <;> walk_at "EI"
end QL

end
section
set_option maxHeartbeats 1000000
/-! places reached, the counts from the beginning, the first row, targets -/
namespace QL
open PySem PySem.Spec L2 QW
local macro_rules | `(tactic| walk_at "EI") => `(tactic| simp only [ws_raise, ws_try, ws_tryR, we_mtS, as_e, as_str, D.asI, wo_none, wo_some, we_slice, wp_exc, ws_seq, ws_nil, ws_let, ws_set, ws_ret, ws_asg, ws_par, par_2, next_nx, ws_expr, ws_sub, ws_for, then_nx, then_rt, let_sh, let_ow, set_sh, set_ow, store_un, store_sh, store_ow, ret_sh, ret_ow, ret_al, back_sh, back_ow, own_ow, run_nx, run_rt, wb_val, bl_is, wb_and, wb_or, wb_not, ds_e, ds_l, ds_r, ds_lr, ds_u, ds_v, ds_U, ds_V, ds_uv, ds_uvUV, ds_mi, ds_n0, ds_n1, ds_co, ds_sl, ds_bl, ds_rr, ds_rrr, ds_ll, we_bin, we_chain, chain_b, we_un, we_if, we_and, we_or, we_not, we_name, slot_sh, slot_ow, we_share, share_sh, share_ow, we_c, we_tup, we_lst, we_callB, we_isT, we_call, we_mut, wl_nil, wl_cons, wp_bind, wp_ok, wp_opt, at_some, at_map, List.map_cons, List.map_nil, Ar.sl, List.length_cons, List.length_nil, List.cons_append, List.nil_append, List.getElem?_cons_zero, List.getElem?_cons_succ, List.set_cons_zero, List.set_cons_succ, Res.get, Res.own, owns, gets, argsOf, lentS, backS, Ar.res, outsOf, Option.map_some, Option.bind_some, Bool.true_eq_false, Bool.false_eq_true, if_true, if_false, g_lst, g_tup, g_clst, g_ctup, s_lst, p_add, p_sub, p_mul, p_mod, p_fdiv, p_pow, p_neg, p_lt, p_le, p_gt, p_ge, p_eqI, p_neI, p_mulT, p_mulL, p_addT, p_addL, p_slT, p_slL, p_start, p_start3, p_end, p_lenT, p_abs, p_ii_max, p_ii_min, Res.norm, ix_0, ix_1, ix_2, ix_3, n3_0, n3_1, n3_2, List.replicate, decide_eq_true_eq, and_true, true_and, List.nodup_nil, List.nodup_cons, List.not_mem_nil, not_false_eq_true, gSet, fr_un, fr_sh, fr_ow, eq_self, gTupD, gsCons, gsNil, loop_nx, loop_rt, wi_any, wk_l, wk_t, wk_c, wi_r1, wi_r2, asI1, asI2, rng_2, rng_4, isL, isDi, ap_M, tu_l, tu_t, ld_l, ld_t, len_l, len_t, len_c, len_ct, int_b, int_i, wb_yes, we_comp, isTn, forD_sh, ws_forD, we_compD, compD_sh, ko_k, ko_t, we_dget, we_dget2, is_dk, is_dt, wi_enu, as_L, Bool.not_true, Bool.not_false, Bool.and_self, Int.reduceAdd, Int.reduceSub, Int.reduceMul, Int.reduceNeg, Int.reducePow, Int.reduceToNat, Nat.reduceLT, Int.reduceLT, Int.reduceLE, Nat.reduceAdd, Nat.reduceSub, Nat.reduceLeDiff, Nat.reduceEqDiff])
local macro_rules | `(tactic| row_walk with [$xs,*]) => `(tactic| simp only [ws_raise, ws_try, ws_tryR, we_mtS, as_e, as_str, D.asI, wo_none, wo_some, we_slice, wp_exc, ws_seq, ws_if, ws_nil, ws_let, ws_set, ws_ret, ws_asg, ws_par, par_2, next_nx, ws_expr, ws_sub, ws_for, then_nx, then_rt, let_sh, let_ow, set_sh, set_ow, store_un, store_sh, store_ow, ret_sh, ret_ow, ret_al, back_sh, back_ow, own_ow, run_nx, run_rt, wb_val, bl_is, wb_and, wb_or, wb_not, ds_e, ds_l, ds_r, ds_lr, ds_u, ds_v, ds_U, ds_V, ds_uv, ds_uvUV, ds_mi, ds_n0, ds_n1, ds_co, ds_sl, ds_bl, ds_rr, ds_rrr, ds_ll, we_bin, we_chain, chain_b, we_un, we_if, we_and, we_or, we_not, we_name, slot_sh, slot_ow, we_share, share_sh, share_ow, we_c, we_tup, we_lst, we_callB, we_isT, we_call, we_mut, wl_nil, wl_cons, wp_bind, wp_ok, wp_opt, at_some, at_map, List.map_cons, List.map_nil, Ar.sl, List.length_cons, List.length_nil, List.cons_append, List.nil_append, List.getElem?_cons_zero, List.getElem?_cons_succ, List.set_cons_zero, List.set_cons_succ, Res.get, Res.own, owns, gets, argsOf, lentS, backS, Ar.res, outsOf, Option.map_some, Option.bind_some, Bool.true_eq_false, Bool.false_eq_true, if_true, if_false, g_lst, g_tup, g_clst, g_ctup, s_lst, p_add, p_sub, p_mul, p_mod, p_fdiv, p_pow, p_neg, p_lt, p_le, p_gt, p_ge, p_eqI, p_neI, p_mulT, p_mulL, p_addT, p_addL, p_slT, p_slL, p_start, p_start3, p_end, p_lenT, p_abs, p_ii_max, p_ii_min, Res.norm, ix_0, ix_1, ix_2, ix_3, n3_0, n3_1, n3_2, List.replicate, decide_eq_true_eq, and_true, true_and, List.nodup_nil, List.nodup_cons, List.not_mem_nil, not_false_eq_true, gSet, fr_un, fr_sh, fr_ow, eq_self, gTupD, gsCons, gsNil, loop_nx, loop_rt, wi_any, wk_l, wk_t, wk_c, wi_r1, wi_r2, asI1, asI2, rng_2, rng_4, isL, isDi, ap_M, tu_l, tu_t, ld_l, ld_t, len_l, len_t, len_c, len_ct, int_b, int_i, wb_yes, we_comp, isTn, forD_sh, ws_forD, we_compD, compD_sh, ko_k, ko_t, we_dget, we_dget2, is_dk, is_dt, wi_enu, as_L, Bool.not_true, Bool.not_false, Bool.and_self, Int.reduceAdd, Int.reduceSub, Int.reduceMul, Int.reduceNeg, Int.reducePow, Int.reduceToNat, Nat.reduceLT, Int.reduceLT, Int.reduceLE, Nat.reduceAdd, Nat.reduceSub, Nat.reduceLeDiff, Nat.reduceEqDiff, $[$xs:term],*])
local macro_rules | `(tactic| wide_line with [$xs,*]) => `(tactic| simp only [ws_raise, ws_try, ws_tryR, we_mtS, as_e, as_str, D.asI, wo_none, wo_some, we_slice, wp_exc, ws_seq, ws_nil, ws_let, ws_set, ws_ret, ws_asg, ws_par, par_2, next_nx, ws_expr, ws_sub, ws_for, then_nx, then_rt, let_sh, let_ow, set_sh, set_ow, store_un, store_sh, store_ow, ret_sh, ret_ow, ret_al, back_sh, back_ow, own_ow, run_nx, run_rt, wb_val, bl_is, wb_and, wb_or, wb_not, ds_e, ds_l, ds_r, ds_lr, ds_u, ds_v, ds_U, ds_V, ds_uv, ds_uvUV, ds_mi, ds_n0, ds_n1, ds_co, ds_sl, ds_bl, ds_rr, ds_rrr, ds_ll, we_bin, we_chain, chain_b, we_un, we_if, we_and, we_or, we_not, we_name, slot_sh, slot_ow, we_share, share_sh, share_ow, we_c, we_tup, we_lst, we_callB, we_isT, we_call, we_mut, wl_nil, wl_cons, wp_bind, wp_ok, wp_opt, at_some, at_map, List.map_cons, List.map_nil, Ar.sl, List.length_cons, List.length_nil, List.cons_append, List.nil_append, List.getElem?_cons_zero, List.getElem?_cons_succ, List.set_cons_zero, List.set_cons_succ, Res.get, Res.own, owns, gets, argsOf, lentS, backS, Ar.res, outsOf, Option.map_some, Option.bind_some, Bool.true_eq_false, Bool.false_eq_true, if_true, if_false, g_lst, g_tup, g_clst, g_ctup, s_lst, p_add, p_sub, p_mul, p_mod, p_fdiv, p_pow, p_neg, p_lt, p_le, p_gt, p_ge, p_eqI, p_neI, p_mulT, p_mulL, p_addT, p_addL, p_slT, p_slL, p_start, p_start3, p_end, p_lenT, p_abs, p_ii_max, p_ii_min, Res.norm, ix_0, ix_1, ix_2, ix_3, n3_0, n3_1, n3_2, List.replicate, decide_eq_true_eq, and_true, true_and, List.nodup_nil, List.nodup_cons, List.not_mem_nil, not_false_eq_true, gSet, fr_un, fr_sh, fr_ow, eq_self, gTupD, gsCons, gsNil, loop_nx, loop_rt, wi_any, wk_l, wk_t, wk_c, wi_r1, wi_r2, asI1, asI2, rng_2, rng_4, isL, isDi, ap_M, tu_l, tu_t, ld_l, ld_t, len_l, len_t, len_c, len_ct, int_b, int_i, wb_yes, we_comp, isTn, forD_sh, ws_forD, we_compD, compD_sh, ko_k, ko_t, we_dget, we_dget2, is_dk, is_dt, wi_enu, as_L, Bool.not_true, Bool.not_false, Bool.and_self, Int.reduceAdd, Int.reduceSub, Int.reduceMul, Int.reduceNeg, Int.reducePow, Int.reduceToNat, Nat.reduceLT, Int.reduceLT, Int.reduceLE, Nat.reduceAdd, Nat.reduceSub, Nat.reduceLeDiff, Nat.reduceEqDiff, $[$xs:term],*])
theorem p_revL {xs : List D} {P : Res → Prop} : atQ (revP (.lst xs)) P ↔ P (.ow (.lst xs.reverse)) := Iff.rfl
theorem p_revT {t : List Nat} {P : Res → Prop} : atQ (revP (.str t)) P ↔ t.length ≤ 1000000 ∧ P (.sh (.str t.reverse)) := by
  show atQ (if t.length ≤ 1000000 then some (.sh (.str t.reverse)) else none) P ↔ _
  by_cases h : t.length ≤ 1000000
  · rw [if_pos h]; exact ⟨fun q => ⟨h, q⟩, fun q => q.2⟩
  · rw [if_neg h]; exact ⟨fun q => q.elim, fun q => h q.1⟩
theorem suf_end (t w : List Nat) : (decide (w.length ≤ t.length) && stands t w (t.length - w.length)) = w.isSuffixOf t := by
  rw [Bool.eq_iff_iff, Bool.and_eq_true, decide_eq_true_eq, List.isSuffixOf_iff_suffix]
  unfold stands
  rw [Bool.and_eq_true, decide_eq_true_eq, decide_eq_true_eq]
  constructor
  · rintro ⟨h1, h2, _⟩
    rw [List.take_of_length_le (by rw [List.length_drop]; omega)] at h2
    exact List.suffix_iff_eq_drop.mpr h2.symm
  · intro h
    have h1 := h.length_le
    refine ⟨h1, ?_, by omega⟩
    rw [List.take_of_length_le (by rw [List.length_drop]; omega)]
    exact (List.suffix_iff_eq_drop.mp h).symm
theorem min_nat (cs : List Nat) (h : cs ≠ []) : min1P [.lst (cs.map fun n : Nat => D.int n)] = (cs.min?).map fun n : Nat => .sh (.int n) := by
  have e : (cs.map fun n : Nat => D.int n) = (cs.map fun n : Nat => (n : Int)).map D.int := by rw [List.map_map]; rfl
  show (((intsD (cs.map fun n : Nat => D.int n)).bind fun ns => ns.min?.map .int).map Res.sh) = _
  rw [e, ints_map]
  show ((cs.map fun n : Nat => (n : Int)).min?.map D.int).map Res.sh = _
  cases cs with
  | nil => exact absurd rfl h
  | cons c cs =>
    have : ∀ (r : List Nat) (c : Nat), (r.map fun n : Nat => (n : Int)).foldl min (c : Int) = ((r.foldl min c : Nat) : Int) := by
      intro r
      induction r with
      | nil => intro c; rfl
      | cons d r ih => intro c; rw [List.map_cons, List.foldl_cons, List.foldl_cons, ← ih]; congr 1; omega
    show some (Res.sh (D.int ((cs.map fun n : Nat => (n : Int)).foldl min (c : Int)))) = _
    rw [this]
    rfl
abbrev encF (ws : List (List Nat)) (t : List Nat) (k : Nat) : List D := (List.range (k + 1)).map fun i => encP (cF ws t i)
theorem at_cF {ws : List (List Nat)} {t : List Nat} {k i : Nat} (h : i ≤ k) : atI (encF ws t k) (i : Int) = some (encP (cF ws t i)) := by
  refine ati_get ?_
  rw [List.getElem?_map, List.getElem?_range (by omega)]
  rfl
theorem encF_succ {ws : List (List Nat)} {t : List Nat} {k : Nat} : encF ws t (k + 1) = encF ws t k ++ [encP (cF ws t (k + 1))] := by
  unfold encF
  rw [List.range_succ, List.map_append]
  rfl
theorem ok_encN (ns : List Nat) (n : Nat) : okD (n + 1) (encN ns) = true := by
  show okDs n _ = true
  exact okDs_map fun _ _ => by cases n <;> rfl
theorem ne_nilN (ns : List Nat) : neP (encN ns) (.lst []) = some (.sh (.bl (!decide (ns = [])))) := by
  rw [p_ne (ok_encN ns 59) rfl, deq_nil]
  congr 4
  simp
theorem counts_ok {ws : List (List Nat)} {t : List Nat} (hw : ∀ w ∈ ws, w ≠ [] ∧ w.length ≤ 1000) (hl : ws.length ≤ 8) (ht : t.length ≤ 100000) : Wp N0 (f_law_counts [.sh (encW ws), .sh (.str t)]) fun p => p = (.ow (.lst (encF ws t t.length)), [.sh (encW ws), .sh (.str t)]) := by
  have hne : ∀ w ∈ ws, w ≠ [] := fun w h => (hw w h).1
  unfold f_law_counts c_law_counts
  rw [wp_run]
  walk_at "EI"
  refine ⟨by omega, by omega, ?_⟩
  refine wp_loop (fun ds ρ => ∃ (k : Nat) (s3 s4 s5 : Sl), k ≤ t.length ∧ ds = rng ((k : Int) + 1) ((t.length : Int) + 1) ∧ ρ = [.sh (encW ws), .sh (.str t), .ow false (.lst (encF ws t k)), s3, s4, s5, .un, .un] ∧ s3.free = true ∧ s4.free = true ∧ s5.free = true) (fun ρ hI => ?_) (fun d ds ρ hI => ?_) _ _ ⟨0, .un, .un, .un, Nat.zero_le _, rfl, rfl, rfl, rfl, rfl⟩
  · obtain ⟨k, s3, s4, s5, hk, hd, rfl, _⟩ := hI
    have : k = t.length := by
      by_cases z : k < t.length
      · rw [rng_cons (by omega)] at hd
        cases hd
      · omega
    subst this
    walk_at "EI"
  · obtain ⟨k, s3, s4, s5, hk, hd, rfl, f3, f4, f5⟩ := hI
    have hlt : k < t.length := by
      by_cases z : k < t.length
      · exact z
      · rw [rng_end (by omega)] at hd
        cases hd
    rw [rng_cons (by omega)] at hd
    cases hd
    refine ⟨_, if_pos f3, ?_⟩
    wide_line with [store_gen f4, store_gen f5, List.length_map]
    refine ⟨⟨rfl, by omega⟩, ?_⟩
    have hcut : cutD t none (some ((k : Int) + 1)) = t.take (k + 1) := by rw [cut_to (by omega)]; congr 1
    refine (lc_filt (f := D.str) (g := fun w => D.int ((k : Int) + 1 - w.length)) (p := fun w => w.isSuffixOf (t.take (k + 1))) rfl ws fun w hm => ?_).monoE ?_
    · wide_line with [hcut, suf_end]
      refine ⟨by omega, fun _ => ?_⟩
      have := (hw w hm).2
      omega
    rintro _ rfl
    generalize hE : ws.filter (fun w => w.isSuffixOf (t.take (k + 1))) = es
    have hes : ∀ w ∈ es, w ≠ [] ∧ w.length ≤ k + 1 := fun w hm => by
      rw [← hE] at hm
      obtain ⟨h1, h2⟩ := List.mem_filter.mp hm
      refine ⟨hne w h1, ?_⟩
      have := (List.isSuffixOf_iff_suffix.mp h2).length_le
      rw [List.length_take] at this
      omega
    have hel : es.length ≤ 8 := by rw [← hE]; exact Nat.le_trans (List.length_filter_le _ _) hl
    have eend : ∀ w ∈ es, atI (encF ws t k) ((k : Int) + 1 - w.length) = some (encP (cF ws t (k + 1 - w.length))) := fun w hm => by
      have h0 : 0 < w.length := List.length_pos_iff.mpr (hes w hm).1
      have h1 := (hes w hm).2
      rw [show (k : Int) + 1 - w.length = ((k + 1 - w.length : Nat) : Int) by omega]
      exact at_cF (by omega)
    wide_line with [store_gen f4, store_gen f5, List.length_map]
    refine ⟨⟨rfl, by omega⟩, ?_⟩
    refine (lc_filt (f := fun w : List Nat => D.int ((k : Int) + 1 - w.length)) (g := fun w => D.int ((((cF ws t (k + 1 - w.length)).1.getD 0 + 1 : Nat)) : Int)) (p := fun w => !decide ((cF ws t (k + 1 - w.length)).1 = none)) rfl es fun w hm => ?_).monoE ?_
    · wide_line with [eend w hm, no_non]
      intro hp
      cases e : (cF ws t (k + 1 - w.length)).1 with
      | none => rw [e] at hp; simp at hp
      | some b =>
        wide_line with [encO, Option.getD_some]
        congr 1
    rintro _ rfl
    have hsucc := cF_succ (ws := ws) hne (t := t) (k := k) (by omega)
    rw [hE] at hsucc
    have hsteps : ((es.filter fun w => !decide ((cF ws t (k + 1 - w.length)).1 = none)).map fun w => D.int ((((cF ws t (k + 1 - w.length)).1.getD 0 + 1 : Nat)) : Int)) = ((es.filterMap fun w => (cF ws t (k + 1 - w.length)).1.map (· + 1)).map fun n : Nat => D.int n) := by
      clear hsucc eend hel hes hE
      induction es with
      | nil => rfl
      | cons w es ih =>
        rw [List.filterMap_cons]
        cases e : (cF ws t (k + 1 - w.length)).1 with
        | none =>
          rw [List.filter_cons_of_neg (by simp [e]), ih]
          rfl
        | some b =>
          rw [List.filter_cons_of_pos (by simp [e]), List.map_cons, ih, e]
          rfl
    rw [hsteps]
    generalize hS : (es.filterMap fun w => (cF ws t (k + 1 - w.length)).1.map (· + 1)) = steps at hsucc
    have hsum : ∀ E' : String → EnvQ → Prop, ∀ s5 : Sl, Wp E' (loopLc 7 bYes (eBin gixP (eBin gixP (eName 2) (eName 7)) (eC (D.int 1))) (es.map fun w : List Nat => D.int ((k : Int) + 1 - w.length)) [.sh (encW ws), .sh (.str t), .ow false (.lst (encF ws t k)), .sh (.int ((k : Int) + 1)), .sh (.lst (es.map fun w : List Nat => D.int ((k : Int) + 1 - w.length))), s5, .un, .un]) fun r => r = (es.map (fun w => D.int (((cF ws t (k + 1 - w.length)).2 : Nat) : Int)), [.sh (encW ws), .sh (.str t), .ow false (.lst (encF ws t k)), .sh (.int ((k : Int) + 1)), .sh (.lst (es.map fun w : List Nat => D.int ((k : Int) + 1 - w.length))), s5, .un, .un]) := fun E' s5 => by
      refine lc_map (f := fun w : List Nat => D.int ((k : Int) + 1 - w.length)) rfl es fun w hm => ?_
      wide_line with [eend w hm]
    have hlen : (encF ws t k).length = k + 1 := by simp
    wide_line with [store_gen f4, store_gen f5, ne_nilN, List.length_map]
    by_cases hs0 : steps = []
    · rw [decide_eq_true hs0]
      wide_line with [List.length_map]
      refine ⟨⟨rfl, by omega⟩, ?_⟩
      refine (hsum _ _).monoE ?_
      rintro _ rfl
      wide_line with [sum_nat]
      refine ⟨by rw [hlen]; omega, k + 1, ?a, ?b, ?c, hlt, rfl, ?e, ?f, ?g, ?h⟩
      case e =>
        rw [encF_succ, hsucc, hs0]
        rfl
      all_goals rfl
    · rw [decide_eq_false hs0]
      obtain ⟨mn, hmn⟩ : ∃ mn, steps.min? = some mn := by
        cases e : steps.min? with
        | none => exact absurd (List.min?_eq_none_iff.mp e) hs0
        | some mn => exact ⟨mn, rfl⟩
      wide_line with [min_nat steps hs0, hmn, List.length_map]
      refine ⟨⟨rfl, by omega⟩, ?_⟩
      refine (hsum _ _).monoE ?_
      rintro _ rfl
      wide_line with [sum_nat]
      refine ⟨by rw [hlen]; omega, k + 1, ?a2, ?b2, ?c2, hlt, rfl, ?e2, ?f2, ?g2, ?h2⟩
      case e2 =>
        rw [encF_succ, hsucc, hmn]
        rfl
      all_goals rfl

theorem eq_strs {a b : List Nat} (ha : LR a) (hb : LR b) : eqP (.str a) (.str b) = some (.sh (.bl (decide (a = b)))) := by
  rw [p_eq (ok_lr ha 60) (ok_lr hb 60)]
  show some (Res.sh (.bl (a == b))) = _
  rw [str_beq]
theorem ne_strs {a b : List Nat} (ha : LR a) (hb : LR b) : neP (.str a) (.str b) = some (.sh (.bl (!decide (a = b)))) := by
  rw [p_ne (ok_lr ha 60) (ok_lr hb 60)]
  show some (Res.sh (.bl (!(a == b)))) = _
  rw [str_beq]
/-- the least row, reckoned from the end's counts -/
theorem first_row_ok {ws : List (List Nat)} {t : List Nat} (htl : LR t) (hw : ∀ w ∈ ws, Mk w) (hl : ws.length ≤ 8) (ht : t.length ≤ 100000) : Wp N0 (f_law_first_row [.sh (encW ws), .sh (.str t)]) fun p => p = (match rowT ws t with | none => .sh .non | some r => .ow (encN r), [.sh (encW ws), .sh (.str t)]) := by
  have hne : ∀ w ∈ ws, w ≠ [] := fun w h => List.length_pos_iff.mp (hw w h).one
  unfold f_law_first_row c_law_first_row
  rw [wp_run]
  wide_line with [List.length_map]
  refine ⟨⟨rfl, by omega⟩, ?_⟩
  refine (lc_map (f := D.str) (g := fun w => D.str w.reverse) rfl ws fun w hm => ?_).monoE ?_
  · wide_line with [p_revT]
    have := (hw w hm).most
    omega
  rintro _ rfl
  have hrev : (ws.map fun w => D.str w.reverse) = (ws.map List.reverse).map D.str := by rw [List.map_map]; rfl
  rw [hrev]
  wide_line with [p_revT]
  refine ⟨by omega, ?_⟩
  refine (counts_ok (ws := ws.map List.reverse) (t := t.reverse) (fun w hm => ?_) (by rw [List.length_map]; exact hl) (by rw [List.length_reverse]; exact ht)).mono ?_
  · obtain ⟨v, hv, rfl⟩ := List.mem_map.mp hm
    have := (hw v hv).one; have := (hw v hv).most
    refine ⟨fun z => ?_, by rw [List.length_reverse]; omega⟩
    have := congrArg List.length z
    rw [List.length_reverse, List.length_nil] at this
    omega
  rintro _ rfl
  have hR : (encF (ws.map List.reverse) t.reverse t.reverse.length).reverse = (rests ws t).map encP := by
    refine List.ext_getElem? fun i => ?_
    by_cases hi : i ≤ t.length
    · rw [List.getElem?_reverse (by simp; omega)]
      have e1 : (encF (ws.map List.reverse) t.reverse t.reverse.length)[(encF (ws.map List.reverse) t.reverse t.reverse.length).length - 1 - i]? = some (encP (cF (ws.map List.reverse) t.reverse (t.length - i))) := by
        rw [List.getElem?_map, List.getElem?_range (by simp; omega)]
        simp
      rw [e1, List.getElem?_map, rests_at ws t i hi]
      unfold cF
      have e2 : (ws.map List.reverse).map List.reverse = ws := by
        rw [List.map_map]
        refine (List.map_congr_left fun w _ => ?_).trans (List.map_id ws)
        exact List.reverse_reverse w
      have e3 : (t.reverse.take (t.length - i)).reverse = t.drop i := by
        rw [List.take_reverse, List.reverse_reverse]
        congr 1
        omega
      rw [e2, e3]
      rfl
    · rw [List.getElem?_eq_none (by simp; omega), List.getElem?_eq_none (by rw [List.length_map, rests_len]; omega)]
  wide_line with [p_revL, hR]
  have h0 : atI ((rests ws t).map encP) 0 = some (encP (restT ws t)) := by
    have := at_rests (ws := ws) (t := t) (k := 0) (Nat.zero_le _)
    rwa [List.drop_zero] at this
  unfold rowT
  cases e0 : (restT ws t).1 with
  | none =>
    row_walk with [h0, e0, is_non]
    rfl
  | some b0 =>
    row_walk with [h0, e0, is_non]
    rw [if_neg (by simp)]
    refine ws_while.mpr ?_
    refine wp_while (I := fun ρ => ∃ (pre u : List Nat) (b : Nat) (row : List Nat) (s6 s7 s8 : Sl), pre ++ u = t ∧ (restT ws u).1 = some b ∧ row ++ greedy ws b u = greedy ws b0 t ∧ row.length ≤ pre.length ∧ ρ = [.sh (encW ws), .sh (.str t), .sh (.lst ((ws.map List.reverse).map D.str)), .sh (encR (rests ws t)), .ow false (encN row), .sh (.int pre.length), s6, s7, s8, .un] ∧ s6.free = true ∧ s7.free = true ∧ s8.free = true) (μ := fun ρ => t.length - (slInt 5 ρ).toNat) ?_ _ _ ⟨[], t, b0, [], .un, .un, .un, rfl, e0, rfl, Nat.le_refl _, rfl, rfl, rfl, rfl⟩ (show t.length - (Int.toNat 0) < 1000000000 by omega)
    rintro ρ ⟨pre, u, b, row, s6, s7, s8, hpu, hb, hrow, hrl, rfl, f6, f7, f8⟩
    have hlen : t.length = pre.length + u.length := by rw [← hpu, List.length_append]
    have hdrop : t.drop pre.length = u := by rw [← hpu, List.drop_left]
    walk_at "EI"
    refine ⟨by omega, ?_⟩
    by_cases hu : u = []
    · subst hu
      rw [if_neg (show ¬ (pre.length : Int) < t.length by rw [hlen]; simp)]
      have : b = 0 := by
        have : (restT ws []).1 = some 0 := rfl
        rw [this] at hb
        exact (Option.some.inj hb).symm
      subst this
      have e1 : row = greedy ws b0 t := by rw [← hrow]; exact (List.append_nil row).symm
      rw [e1]
    · have hul : 0 < u.length := List.length_pos_iff.mpr hu
      rw [if_pos (show (pre.length : Int) < t.length by omega)]
      cases b with
      | zero => exact absurd (best_zero hne hb) hu
      | succ b =>
        obtain ⟨w, hk, hp, hr⟩ := firstK_ok hne hb
        have hklt := (List.getElem?_eq_some_iff.mp hk).1
        have hat := at_rests (ws := ws) (t := t) (k := pre.length) (by omega)
        rw [hdrop] at hat
        have hbn : encO (restT ws u).1 = .int ((b : Int) + 1) := by rw [hb]; rfl
        have hgw : goodK ws u b w = true := by unfold goodK; rw [hp, hr]; simp
        wide_line with [wi_r3, asI3, List.length_map]
        refine ⟨by omega, ?_⟩
        refine wp_loop (fun ds ρ => ∃ (j : Nat) (s6 s7 s8 : Sl), j ≤ ws.length ∧ ds = rngDn ((j : Int) - 1) (-1) ∧ ρ = [.sh (encW ws), .sh (.str t), .sh (.lst ((ws.map List.reverse).map D.str)), .sh (encR (rests ws t)), .ow false (encN row), .sh (.int pre.length), s6, s7, s8, .un] ∧ (j ≤ firstK ws u b → s8 = .sh (.int (firstK ws u b))) ∧ s6.free = true ∧ s7.free = true ∧ s8.free = true) (fun ρ hI => ?_) (fun d ds ρ hI => ?_) _ _ ⟨ws.length, s6, s7, s8, Nat.le_refl _, rfl, rfl, fun h => absurd h (by omega), f6, f7, f8⟩
        · obtain ⟨j, s6, s7, s8, hj, hd, rfl, h8, f6, f7, f8⟩ := hI
          have : j = 0 := by
            have := congrArg List.length hd
            unfold rngDn at this
            simp at this
            omega
          subst this
          rw [h8 (Nat.zero_le _)]
          wide_line with [at_words hk, List.length_map]
          refine ⟨by omega, by have := (hw w (List.mem_of_getElem? hk)).most; omega, ⟨pre ++ w, u.drop w.length, b, row ++ [firstK ws u b], s6, s7, .sh (.int (firstK ws u b)), ?_, hr, ?_, ?_, ?_, f6, f7, rfl⟩, ?_⟩
          · obtain ⟨a, rfl⟩ := List.isPrefixOf_iff_prefix.mp hp
            rw [List.drop_left, List.append_assoc, hpu]
          · rw [← hrow, List.append_assoc]
            congr 1
            show firstK ws u b :: greedy ws b (u.drop w.length) = firstK ws u b :: greedy ws b (u.drop (ws.getD (firstK ws u b) []).length)
            rw [List.getD_eq_getElem?_getD, hk]
            rfl
          · rw [List.length_append, List.length_append, List.length_cons, List.length_nil]
            have := (hw w (List.mem_of_getElem? hk)).one
            omega
          · rw [encN_snoc, List.length_append, Int.natCast_add]
          · show t.length - (((pre.length : Int) + w.length).toNat) < t.length - ((pre.length : Int).toNat)
            have := (hw w (List.mem_of_getElem? hk)).one
            omega
        · obtain ⟨j, s6, s7, s8, hj, hd, rfl, h8, f6, f7, f8⟩ := hI
          cases j with
          | zero =>
            rw [show ((0 : Nat) : Int) - 1 = -1 by decide, rngDn_nil] at hd
            cases hd
          | succ j =>
            rw [show ((j + 1 : Nat) : Int) - 1 = j by omega, rngDn_cons] at hd
            cases hd
            obtain ⟨v, hv⟩ : ∃ v, ws[j]? = some v := ⟨ws[j]'(by omega), List.getElem?_eq_getElem (by omega)⟩
            have mv := hw v (List.mem_of_getElem? hv)
            have mv2 := mv.most
            refine ⟨_, if_pos f6, ?_⟩
            have hcut : cutD t (some (pre.length : Int)) (some ((pre.length : Int) + v.length)) = u.take v.length := by
              rw [cut_mid (by omega) (by omega), Int.toNat_natCast, hdrop]
              congr 1
              omega
            wide_line with [at_words hv, store_gen f7, hcut]
            refine ⟨by omega, ?_⟩
            have hul2 : LR u := by rw [← hdrop]; exact htl.drop _
            row_walk with [at_words hv, store_gen f8, hcut, eq_strs (hul2.take v.length) mv.lr]
            refine ⟨by omega, ?_⟩
            have hpre : u.take v.length = v ↔ v.isPrefixOf u = true := by
              rw [List.isPrefixOf_iff_prefix]
              exact ⟨fun h => by rw [← h]; exact List.take_prefix _ _, fun h => (List.prefix_iff_eq_take.mp h).symm⟩
            by_cases hpv : v.isPrefixOf u = true
            · have hle := (List.isPrefixOf_iff_prefix.mp hpv).length_le
              have hat2 := at_rests (ws := ws) (t := t) (k := pre.length + v.length) (by omega)
              rw [← List.drop_drop, hdrop, Int.natCast_add] at hat2
              rw [if_pos (hpre.mpr hpv)]
              row_walk with [hat2, hat, hbn, eq_encO]
              by_cases hg : (restT ws (u.drop v.length)).1 = some b
              · rw [if_pos hg]
                refine ⟨f8, j, .sh (.int j), .sh (.int ((pre.length : Int) + v.length)), .sh (.int j), by omega, rfl, rfl, fun hle => ?_, rfl, rfl, rfl⟩
                have hjj : ¬ j < firstK ws u b := fun z => by
                  have := List.not_of_lt_findIdx z
                  have e : ws[j]'(by omega) = v := (List.getElem?_eq_some_iff.mp hv).2
                  rw [e] at this
                  unfold goodK at this
                  rw [hpv, hg] at this
                  simp at this
                rw [show j = firstK ws u b by omega]
              · rw [if_neg hg]
                refine ⟨j, .sh (.int j), .sh (.int ((pre.length : Int) + v.length)), s8, by omega, rfl, rfl, fun hle => ?_, rfl, rfl, f8⟩
                rcases Nat.lt_or_eq_of_le hle with z | z
                · exact h8 z
                · rw [z, hk] at hv
                  cases hv
                  exact absurd hr hg
            · rw [if_neg fun z => hpv (hpre.mp z)]
              refine ⟨j, .sh (.int j), .sh (.int ((pre.length : Int) + v.length)), s8, by omega, rfl, rfl, fun hle => ?_, rfl, rfl, f8⟩
              rcases Nat.lt_or_eq_of_le hle with z | z
              · exact h8 z
              · rw [z, hk] at hv
                cases hv
                exact absurd hp hpv
end QL

end
section
set_option maxHeartbeats 1000000
/-! places reached; targets -/
namespace QL
open PySem PySem.Spec L2 QW
local macro_rules | `(tactic| walk_at "EL") => `(tactic| simp only [ws_raise, ws_try, ws_tryR, we_mtS, as_e, as_str, D.asI, wo_none, wo_some, we_slice, wp_exc, ws_seq, ws_if, ws_nil, ws_let, ws_set, ws_ret, ws_asg, ws_par, par_2, next_nx, ws_expr, ws_sub, ws_for, then_nx, then_rt, let_sh, let_ow, set_sh, set_ow, store_un, store_sh, store_ow, ret_sh, ret_ow, ret_al, back_sh, back_ow, own_ow, run_nx, run_rt, wb_val, bl_is, wb_and, wb_or, wb_not, ds_e, ds_l, ds_r, ds_lr, ds_u, ds_v, ds_U, ds_V, ds_uv, ds_uvUV, ds_mi, ds_n0, ds_n1, ds_co, ds_sl, ds_bl, ds_rr, ds_rrr, ds_ll, we_bin, we_chain, chain_b, we_un, we_if, we_and, we_or, we_not, we_name, slot_sh, slot_ow, we_share, share_sh, share_ow, we_c, we_tup, we_lst, we_callB, we_isT, we_call, we_mut, wl_nil, wl_cons, wp_bind, wp_ok, wp_opt, at_some, at_map, List.map_cons, List.map_nil, Ar.sl, List.length_cons, List.length_nil, List.cons_append, List.nil_append, List.getElem?_cons_zero, List.getElem?_cons_succ, List.set_cons_zero, List.set_cons_succ, Res.get, Res.own, owns, gets, argsOf, lentS, backS, Ar.res, outsOf, Option.map_some, Option.bind_some, Bool.true_eq_false, Bool.false_eq_true, if_true, if_false, g_lst, g_tup, g_clst, g_ctup, s_lst, p_add, p_sub, p_mul, p_mod, p_fdiv, p_pow, p_neg, p_lt, p_le, p_gt, p_ge, p_eqI, p_neI, p_mulT, p_mulL, p_addT, p_addL, p_slT, p_slL, p_start, p_start3, p_end, p_lenT, p_abs, p_ii_max, p_ii_min, Res.norm, ix_0, ix_1, ix_2, ix_3, n3_0, n3_1, n3_2, List.replicate, decide_eq_true_eq, and_true, true_and, List.nodup_nil, List.nodup_cons, List.not_mem_nil, not_false_eq_true, gSet, fr_un, fr_sh, fr_ow, eq_self, gTupD, gsCons, gsNil, loop_nx, loop_rt, wi_any, wk_l, wk_t, wk_c, wi_r1, wi_r2, asI1, asI2, rng_2, rng_4, isL, isDi, ap_M, tu_l, tu_t, ld_l, ld_t, len_l, len_t, len_c, len_ct, int_b, int_i, wb_yes, we_comp, isTn, forD_sh, ws_forD, we_compD, compD_sh, ko_k, ko_t, we_dget, we_dget2, is_dk, is_dt, wi_enu, as_L, Bool.not_true, Bool.not_false, Bool.and_self, Int.reduceAdd, Int.reduceSub, Int.reduceMul, Int.reduceNeg, Int.reducePow, Int.reduceToNat, Nat.reduceLT, Int.reduceLT, Int.reduceLE, Nat.reduceAdd, Nat.reduceSub, Nat.reduceLeDiff, Nat.reduceEqDiff])
local macro_rules | `(tactic| walk_at "EI") => `(tactic| simp only [ws_raise, ws_try, ws_tryR, we_mtS, as_e, as_str, D.asI, wo_none, wo_some, we_slice, wp_exc, ws_seq, ws_nil, ws_let, ws_set, ws_ret, ws_asg, ws_par, par_2, next_nx, ws_expr, ws_sub, ws_for, then_nx, then_rt, let_sh, let_ow, set_sh, set_ow, store_un, store_sh, store_ow, ret_sh, ret_ow, ret_al, back_sh, back_ow, own_ow, run_nx, run_rt, wb_val, bl_is, wb_and, wb_or, wb_not, ds_e, ds_l, ds_r, ds_lr, ds_u, ds_v, ds_U, ds_V, ds_uv, ds_uvUV, ds_mi, ds_n0, ds_n1, ds_co, ds_sl, ds_bl, ds_rr, ds_rrr, ds_ll, we_bin, we_chain, chain_b, we_un, we_if, we_and, we_or, we_not, we_name, slot_sh, slot_ow, we_share, share_sh, share_ow, we_c, we_tup, we_lst, we_callB, we_isT, we_call, we_mut, wl_nil, wl_cons, wp_bind, wp_ok, wp_opt, at_some, at_map, List.map_cons, List.map_nil, Ar.sl, List.length_cons, List.length_nil, List.cons_append, List.nil_append, List.getElem?_cons_zero, List.getElem?_cons_succ, List.set_cons_zero, List.set_cons_succ, Res.get, Res.own, owns, gets, argsOf, lentS, backS, Ar.res, outsOf, Option.map_some, Option.bind_some, Bool.true_eq_false, Bool.false_eq_true, if_true, if_false, g_lst, g_tup, g_clst, g_ctup, s_lst, p_add, p_sub, p_mul, p_mod, p_fdiv, p_pow, p_neg, p_lt, p_le, p_gt, p_ge, p_eqI, p_neI, p_mulT, p_mulL, p_addT, p_addL, p_slT, p_slL, p_start, p_start3, p_end, p_lenT, p_abs, p_ii_max, p_ii_min, Res.norm, ix_0, ix_1, ix_2, ix_3, n3_0, n3_1, n3_2, List.replicate, decide_eq_true_eq, and_true, true_and, List.nodup_nil, List.nodup_cons, List.not_mem_nil, not_false_eq_true, gSet, fr_un, fr_sh, fr_ow, eq_self, gTupD, gsCons, gsNil, loop_nx, loop_rt, wi_any, wk_l, wk_t, wk_c, wi_r1, wi_r2, asI1, asI2, rng_2, rng_4, isL, isDi, ap_M, tu_l, tu_t, ld_l, ld_t, len_l, len_t, len_c, len_ct, int_b, int_i, wb_yes, we_comp, isTn, forD_sh, ws_forD, we_compD, compD_sh, ko_k, ko_t, we_dget, we_dget2, is_dk, is_dt, wi_enu, as_L, Bool.not_true, Bool.not_false, Bool.and_self, Int.reduceAdd, Int.reduceSub, Int.reduceMul, Int.reduceNeg, Int.reducePow, Int.reduceToNat, Nat.reduceLT, Int.reduceLT, Int.reduceLE, Nat.reduceAdd, Nat.reduceSub, Nat.reduceLeDiff, Nat.reduceEqDiff])
local macro_rules | `(tactic| row_walk with [$xs,*]) => `(tactic| simp only [ws_raise, ws_try, ws_tryR, we_mtS, as_e, as_str, D.asI, wo_none, wo_some, we_slice, wp_exc, ws_seq, ws_if, ws_nil, ws_let, ws_set, ws_ret, ws_asg, ws_par, par_2, next_nx, ws_expr, ws_sub, ws_for, then_nx, then_rt, let_sh, let_ow, set_sh, set_ow, store_un, store_sh, store_ow, ret_sh, ret_ow, ret_al, back_sh, back_ow, own_ow, run_nx, run_rt, wb_val, bl_is, wb_and, wb_or, wb_not, ds_e, ds_l, ds_r, ds_lr, ds_u, ds_v, ds_U, ds_V, ds_uv, ds_uvUV, ds_mi, ds_n0, ds_n1, ds_co, ds_sl, ds_bl, ds_rr, ds_rrr, ds_ll, we_bin, we_chain, chain_b, we_un, we_if, we_and, we_or, we_not, we_name, slot_sh, slot_ow, we_share, share_sh, share_ow, we_c, we_tup, we_lst, we_callB, we_isT, we_call, we_mut, wl_nil, wl_cons, wp_bind, wp_ok, wp_opt, at_some, at_map, List.map_cons, List.map_nil, Ar.sl, List.length_cons, List.length_nil, List.cons_append, List.nil_append, List.getElem?_cons_zero, List.getElem?_cons_succ, List.set_cons_zero, List.set_cons_succ, Res.get, Res.own, owns, gets, argsOf, lentS, backS, Ar.res, outsOf, Option.map_some, Option.bind_some, Bool.true_eq_false, Bool.false_eq_true, if_true, if_false, g_lst, g_tup, g_clst, g_ctup, s_lst, p_add, p_sub, p_mul, p_mod, p_fdiv, p_pow, p_neg, p_lt, p_le, p_gt, p_ge, p_eqI, p_neI, p_mulT, p_mulL, p_addT, p_addL, p_slT, p_slL, p_start, p_start3, p_end, p_lenT, p_abs, p_ii_max, p_ii_min, Res.norm, ix_0, ix_1, ix_2, ix_3, n3_0, n3_1, n3_2, List.replicate, decide_eq_true_eq, and_true, true_and, List.nodup_nil, List.nodup_cons, List.not_mem_nil, not_false_eq_true, gSet, fr_un, fr_sh, fr_ow, eq_self, gTupD, gsCons, gsNil, loop_nx, loop_rt, wi_any, wk_l, wk_t, wk_c, wi_r1, wi_r2, asI1, asI2, rng_2, rng_4, isL, isDi, ap_M, tu_l, tu_t, ld_l, ld_t, len_l, len_t, len_c, len_ct, int_b, int_i, wb_yes, we_comp, isTn, forD_sh, ws_forD, we_compD, compD_sh, ko_k, ko_t, we_dget, we_dget2, is_dk, is_dt, wi_enu, as_L, Bool.not_true, Bool.not_false, Bool.and_self, Int.reduceAdd, Int.reduceSub, Int.reduceMul, Int.reduceNeg, Int.reducePow, Int.reduceToNat, Nat.reduceLT, Int.reduceLT, Int.reduceLE, Nat.reduceAdd, Nat.reduceSub, Nat.reduceLeDiff, Nat.reduceEqDiff, $[$xs:term],*])
local macro_rules | `(tactic| wide_line with [$xs,*]) => `(tactic| simp only [ws_raise, ws_try, ws_tryR, we_mtS, as_e, as_str, D.asI, wo_none, wo_some, we_slice, wp_exc, ws_seq, ws_nil, ws_let, ws_set, ws_ret, ws_asg, ws_par, par_2, next_nx, ws_expr, ws_sub, ws_for, then_nx, then_rt, let_sh, let_ow, set_sh, set_ow, store_un, store_sh, store_ow, ret_sh, ret_ow, ret_al, back_sh, back_ow, own_ow, run_nx, run_rt, wb_val, bl_is, wb_and, wb_or, wb_not, ds_e, ds_l, ds_r, ds_lr, ds_u, ds_v, ds_U, ds_V, ds_uv, ds_uvUV, ds_mi, ds_n0, ds_n1, ds_co, ds_sl, ds_bl, ds_rr, ds_rrr, ds_ll, we_bin, we_chain, chain_b, we_un, we_if, we_and, we_or, we_not, we_name, slot_sh, slot_ow, we_share, share_sh, share_ow, we_c, we_tup, we_lst, we_callB, we_isT, we_call, we_mut, wl_nil, wl_cons, wp_bind, wp_ok, wp_opt, at_some, at_map, List.map_cons, List.map_nil, Ar.sl, List.length_cons, List.length_nil, List.cons_append, List.nil_append, List.getElem?_cons_zero, List.getElem?_cons_succ, List.set_cons_zero, List.set_cons_succ, Res.get, Res.own, owns, gets, argsOf, lentS, backS, Ar.res, outsOf, Option.map_some, Option.bind_some, Bool.true_eq_false, Bool.false_eq_true, if_true, if_false, g_lst, g_tup, g_clst, g_ctup, s_lst, p_add, p_sub, p_mul, p_mod, p_fdiv, p_pow, p_neg, p_lt, p_le, p_gt, p_ge, p_eqI, p_neI, p_mulT, p_mulL, p_addT, p_addL, p_slT, p_slL, p_start, p_start3, p_end, p_lenT, p_abs, p_ii_max, p_ii_min, Res.norm, ix_0, ix_1, ix_2, ix_3, n3_0, n3_1, n3_2, List.replicate, decide_eq_true_eq, and_true, true_and, List.nodup_nil, List.nodup_cons, List.not_mem_nil, not_false_eq_true, gSet, fr_un, fr_sh, fr_ow, eq_self, gTupD, gsCons, gsNil, loop_nx, loop_rt, wi_any, wk_l, wk_t, wk_c, wi_r1, wi_r2, asI1, asI2, rng_2, rng_4, isL, isDi, ap_M, tu_l, tu_t, ld_l, ld_t, len_l, len_t, len_c, len_ct, int_b, int_i, wb_yes, we_comp, isTn, forD_sh, ws_forD, we_compD, compD_sh, ko_k, ko_t, we_dget, we_dget2, is_dk, is_dt, wi_enu, as_L, Bool.not_true, Bool.not_false, Bool.and_self, Int.reduceAdd, Int.reduceSub, Int.reduceMul, Int.reduceNeg, Int.reducePow, Int.reduceToNat, Nat.reduceLT, Int.reduceLT, Int.reduceLE, Nat.reduceAdd, Nat.reduceSub, Nat.reduceLeDiff, Nat.reduceEqDiff, $[$xs:term],*])
theorem any_nat (ns : List Nat) (i : Int) : ((ns.map fun n : Nat => D.int n).any fun e => deq e (.int i)) = decide (∃ n ∈ ns, (n : Int) = i) := by
  rw [Bool.eq_iff_iff, List.any_eq_true, decide_eq_true_eq]
  constructor
  · rintro ⟨d, hd, h⟩
    obtain ⟨n, hn, rfl⟩ := List.mem_map.mp hd
    exact ⟨n, hn, by simpa [deq] using h⟩
  · rintro ⟨n, hn, h⟩
    exact ⟨_, List.mem_map.mpr ⟨n, hn, rfl⟩, by simpa [deq] using h⟩
theorem in_nat {ns : List Nat} {i : Int} : memP (.int i) (encN ns) = some (.sh (.bl (decide (∃ n ∈ ns, (n : Int) = i)))) := by
  rw [p_in rfl (okDs_map fun _ _ => rfl), any_nat]
def placesT (ws : List (List Nat)) (t : List Nat) (n : Nat) : List Nat := (List.range (n + 1)).filter fun k => decide ((cF ws t k).1 ≠ none)
theorem places_succ (ws : List (List Nat)) (t : List Nat) (n : Nat) : placesT ws t (n + 1) = placesT ws t n ++ if (cF ws t (n + 1)).1 ≠ none then [n + 1] else [] := by
  unfold placesT
  rw [List.range_succ, List.filter_append]
  congr 1
  by_cases h : (cF ws t (n + 1)).1 ≠ none
  · rw [if_pos h, List.filter_cons_of_pos (by simpa using h)]
    rfl
  · rw [if_neg h, List.filter_cons_of_neg (by simpa using h)]
    rfl
theorem mem_places {ws : List (List Nat)} {t : List Nat} {n k : Nat} : k ∈ placesT ws t n ↔ k ≤ n ∧ (cF ws t k).1 ≠ none := by
  unfold placesT
  rw [List.mem_filter, List.mem_range, decide_eq_true_eq]
  constructor <;> rintro ⟨h1, h2⟩ <;> exact ⟨by omega, h2⟩
theorem places_len (ws : List (List Nat)) (t : List Nat) (n : Nat) : (placesT ws t n).length ≤ n + 1 := by
  unfold placesT
  refine Nat.le_trans (List.length_filter_le _ _) ?_
  rw [List.length_range]
  exact Nat.le_refl _
theorem suf_drop {t w : List Nat} {k : Nat} (hk : k ≤ t.length) (hw : w.length ≤ k) : w.isPrefixOf (t.drop (k - w.length)) = w.isSuffixOf (t.take k) := by
  rw [Bool.eq_iff_iff, List.isPrefixOf_iff_prefix, List.isSuffixOf_iff_suffix]
  constructor
  · intro h
    have e := List.prefix_iff_eq_take.mp h
    rw [List.suffix_iff_eq_drop, List.length_take, Nat.min_eq_left hk, List.drop_take, show k - (k - w.length) = w.length by omega]
    exact e
  · intro h
    have e := List.suffix_iff_eq_drop.mp h
    rw [List.length_take, Nat.min_eq_left hk, List.drop_take, show k - (k - w.length) = w.length by omega] at e
    exact List.prefix_iff_eq_take.mpr e
theorem place_iff {ws : List (List Nat)} (hw : ∀ w ∈ ws, w ≠ []) {t : List Nat} {k : Nat} (hk : k + 1 ≤ t.length) : (cF ws t (k + 1)).1 ≠ none ↔ ∃ w ∈ ws, w.length ≤ k + 1 ∧ (cF ws t (k + 1 - w.length)).1 ≠ none ∧ w.isPrefixOf (t.drop (k + 1 - w.length)) = true := by
  rw [cF_succ hw hk]
  show List.min? _ ≠ none ↔ _
  rw [Ne, List.min?_eq_none_iff, List.filterMap_eq_nil_iff]
  constructor
  · intro h
    refine Classical.byContradiction fun n => h fun w hm => ?_
    obtain ⟨h1, h2⟩ := List.mem_filter.mp hm
    have hle := (List.isSuffixOf_iff_suffix.mp h2).length_le
    rw [List.length_take] at hle
    cases e : (cF ws t (k + 1 - w.length)).1 with
    | none => rfl
    | some b => exact absurd ⟨w, h1, by omega, by rw [e]; simp, by rw [suf_drop hk (by omega)]; exact h2⟩ n
  · rintro ⟨w, hm, hl, h1, h2⟩ h
    rw [suf_drop hk hl] at h2
    have := h w (List.mem_filter.mpr ⟨hm, h2⟩)
    rw [Option.map_eq_none_iff] at this
    exact h1 this
theorem reached_ok {ws : List (List Nat)} {t : List Nat} (h : Mks ws) (ht : LR t) (hl : t.length ≤ 400) : Wp N0 (freached [.sh (encM ws), .sh (dT (tabW t))]) fun p => p = (.ow (encN (placesT ws t t.length)), [.sh (encM ws), .sh (dT (tabW t))]) := by
  have hne : ∀ w ∈ ws, w ≠ [] := fun w hw => List.length_pos_iff.mp (h.all w hw).one
  have h8 := h.most
  unfold freached creached
  rw [wp_run]
  walk_at "EI"
  refine (words_of_ok h).mono ?_
  rintro _ rfl
  walk_at "EI"
  refine (word_of_fit ht hl).mono ?_
  rintro _ rfl
  walk_at "EI"
  refine ⟨by omega, by omega, ?_⟩
  refine wp_loop (fun ds ρ => ∃ (k : Nat) (s5 : Sl), k ≤ t.length ∧ ds = rng ((k : Int) + 1) ((t.length : Int) + 1) ∧ ρ = [.sh (encM ws), .sh (dT (tabW t)), .sh (encW ws), .sh (.str t), .ow false (encN (placesT ws t k)), s5, .un] ∧ s5.free = true) (fun ρ hI => ?_) (fun d ds ρ hI => ?_) _ _ ⟨0, .un, Nat.zero_le _, rfl, rfl, rfl⟩
  · obtain ⟨k, s5, hk, hd, rfl, _⟩ := hI
    have : k = t.length := by
      by_cases z : k < t.length
      · rw [rng_cons (by omega)] at hd
        cases hd
      · omega
    subst this
    walk_at "EI"
  · obtain ⟨k, s5, hk, hd, rfl, f5⟩ := hI
    have hlt : k < t.length := by
      by_cases z : k < t.length
      · exact z
      · rw [rng_end (by omega)] at hd
        cases hd
    rw [rng_cons (by omega)] at hd
    cases hd
    refine ⟨_, if_pos f5, ?_⟩
    row_walk with [List.length_map]
    refine ⟨⟨rfl, by omega⟩, ?_⟩
    refine (lc_filt (f := D.str) (g := D.str) (p := fun w => decide (∃ n ∈ placesT ws t k, (n : Int) = (k : Int) + 1 - w.length) && w.isPrefixOf (t.drop (k + 1 - w.length))) rfl ws fun w hm => ?_).monoE ?_
    · have hw40 := (h.all w hm).most
      have hw1 := (h.all w hm).one
      wide_line with [in_nat]
      refine ⟨by omega, ?_⟩
      by_cases hin : ∃ n ∈ placesT ws t k, (n : Int) = (k : Int) + 1 - w.length
      · rw [if_pos hin, decide_eq_true hin]
        obtain ⟨n, hn, en⟩ := hin
        refine ⟨by omega, ?_⟩
        rw [show ((k : Int) + 1 - w.length).toNat = k + 1 - w.length by omega, stands_pre (by omega)]
        wide_line with [Bool.true_and]
        exact ⟨by omega, fun _ => trivial⟩
      · rw [if_neg hin, decide_eq_false hin]
        wide_line with [Bool.false_and]
        intro z; cases z
    rintro _ rfl
    generalize hE : ws.filter (fun w => decide (∃ n ∈ placesT ws t k, (n : Int) = (k : Int) + 1 - w.length) && w.isPrefixOf (t.drop (k + 1 - w.length))) = es
    have hlr : ∀ w ∈ es, LR w := fun w hm => by
      rw [← hE] at hm
      exact (h.all w (List.mem_filter.mp hm).1).lr
    have hiff : es ≠ [] ↔ (cF ws t (k + 1)).1 ≠ none := by
      rw [place_iff hne (by omega), ← hE]
      constructor
      · intro hne'
        obtain ⟨w, hw⟩ := List.exists_mem_of_ne_nil _ hne'
        obtain ⟨h1, h2⟩ := List.mem_filter.mp hw
        rw [Bool.and_eq_true, decide_eq_true_eq] at h2
        obtain ⟨⟨n, hn, en⟩, h3⟩ := h2
        obtain ⟨h4, h5⟩ := mem_places.mp hn
        exact ⟨w, h1, by omega, by rw [show k + 1 - w.length = n by omega]; exact h5, h3⟩
      · rintro ⟨w, h1, h2, h3, h4⟩ z
        have : w ∈ ws.filter (fun w => decide (∃ n ∈ placesT ws t k, (n : Int) = (k : Int) + 1 - w.length) && w.isPrefixOf (t.drop (k + 1 - w.length))) := by
          refine List.mem_filter.mpr ⟨h1, ?_⟩
          rw [Bool.and_eq_true, decide_eq_true_eq]
          have hw1 := (h.all w h1).one
          exact ⟨⟨k + 1 - w.length, mem_places.mpr ⟨by omega, h3⟩, by omega⟩, h4⟩
        rw [z] at this
        exact absurd this List.not_mem_nil
    have hn : neP (.lst (es.map D.str)) (.lst []) = some (.sh (.bl (!decide (es = [])))) := ne_nilW hlr
    row_walk with [hn, List.length_map]
    have hpl := places_len ws t k
    by_cases hes : es = []
    · rw [decide_eq_true hes]
      walk_at "EL"
      refine ⟨k + 1, .sh (.int ((k : Int) + 1)), by omega, rfl, ?_, rfl⟩
      rw [places_succ, if_neg fun z => (hiff.mpr z) hes, List.append_nil]
    · rw [decide_eq_false hes]
      walk_at "EL"
      refine ⟨by omega, k + 1, .sh (.int ((k : Int) + 1)), by omega, rfl, ?_, rfl⟩
      rw [places_succ, if_pos (hiff.mp hes), encN_snoc]
      rfl
/-- a text to be made -/
theorem target_ok {a b m most : Int} {ws : List (List Nat)} (g : Good a b m) (hw : Mks ws) (h0 : 0 < most) (h1 : most ≤ 400) : Wp N0 (f_law_target [.ow (dr a b m), .sh (encW ws), .sh (.int most)]) fun p => ∃ t a' b', LR t ∧ (t.length : Int) ≤ most ∧ Good a' b' m ∧ p = (.sh (.str t), [.ow (dr a' b' m), .sh (encW ws), .sh (.int most)]) := by
  have h8 := hw.most; have h1' := hw.one
  unfold f_law_target c_law_target
  rw [wp_run]
  walk_at "EI"
  refine (draw_ok g (by decide) (by decide)).mono ?_
  rintro _ ⟨r1, a1, b1, x0, x1, g1, rfl⟩
  walk_at "EI"
  refine ⟨by omega, ?_⟩
  refine wp_loop (fun ds ρ => ∃ (t : List Nat) (a b : Int) (s4 s5 : Sl), LR t ∧ (t.length : Int) ≤ most ∧ Good a b m ∧ ρ = [.ow true (dr a b m), .sh (encW ws), .sh (.int most), .sh (.str t), s4, s5, .un, .un] ∧ s4.free = true ∧ s5.free = true) (fun ρ hI => ?_) (fun d ds ρ hI => ?_) _ _ ⟨[], a1, b1, .un, .un, LR.nil, by simp; omega, g1, rfl, rfl, rfl⟩
  · obtain ⟨t, a, b, s4, s5, ht, hl, g, rfl, f4, f5⟩ := hI
    walk_at "EI"
    refine (draw_ok g (by decide) (by decide)).mono ?_
    rintro _ ⟨way, a2, b2, y0, y1, g2, rfl⟩
    walk_at "EI"
    refine ⟨by omega, ?_⟩
    refine (draw_ok g2 (by omega) (by omega)).mono ?_
    rintro _ ⟨at_, a3, b3, z0, z1, g3, rfl⟩
    walk_at "EI"
    -- behind each of the three ifs: some text
    refine Wp.mono (Q := fun x => ∃ (t : List Nat) (a b : Int), LR t ∧ t.length ≤ 1000 ∧ Good a b m ∧ x = .nx [.ow true (dr a b m), .sh (encW ws), .sh (.int most), .sh (.str t), s4, s5, .sh (.int way), .sh (.int at_)]) ?_ ?_
    · walk_at "EL"
      split
      · refine ⟨by omega, ?_⟩
        refine (draw_ok g3 (by decide) (by decide)).mono ?_
        rintro _ ⟨r, a4, b4, q0, q1, g4, rfl⟩
        obtain ⟨c, hc, ec⟩ := lr_at q0 q1
        row_walk with [ec, cut_to z0, cut_from z0]
        refine ⟨?_, by omega, ?_, _, a4, b4, ?_, ?_, g4, rfl⟩
        · rw [List.length_take]; omega
        · rw [List.length_append, List.length_take, List.length_drop]; simp only [List.length_cons, List.length_nil]; omega
        · exact ((ht.take _).app (LR.nil.cons hc)).app (ht.drop _)
        · rw [List.length_append, List.length_append, List.length_take, List.length_drop]; simp only [List.length_cons, List.length_nil]; omega
      · exact ⟨t, a3, b3, ht, by omega, g3, rfl⟩
    rintro _ ⟨t2, a4, b4, ht2, hl2, g4, rfl⟩
    walk_at "EI"
    refine Wp.mono (Q := fun x => ∃ (t : List Nat) (a b : Int), LR t ∧ t.length ≤ 1000 ∧ Good a b m ∧ x = .nx [.ow true (dr a b m), .sh (encW ws), .sh (.int most), .sh (.str t), s4, s5, .sh (.int way), .sh (.int at_)]) ?_ ?_
    · walk_at "EL"
      split
      · row_walk with [cut_to z0, cut_from (show 0 ≤ at_ + 1 by omega)]
        refine ⟨by omega, by omega, ?_, _, a4, b4, ?_, ?_, g4, rfl⟩
        · rw [List.length_take, List.length_drop]; omega
        · exact (ht2.take _).app (ht2.drop _)
        · rw [List.length_append, List.length_take, List.length_drop]; omega
      · exact ⟨t2, a4, b4, ht2, hl2, g4, rfl⟩
    rintro _ ⟨t3, a5, b5, ht3, hl3, g5, rfl⟩
    walk_at "EI"
    refine Wp.mono (Q := fun x => ∃ (t : List Nat) (a b : Int), LR t ∧ t.length ≤ 1000 ∧ Good a b m ∧ x = .nx [.ow true (dr a b m), .sh (encW ws), .sh (.int most), .sh (.str t), s4, s5, .sh (.int way), .sh (.int at_)]) ?_ ?_
    · walk_at "EL"
      split
      · refine (piece_ok g5 h0 (by omega)).mono ?_
        rintro _ ⟨w, a6, b6, w1, w2, w3, g6, rfl⟩
        walk_at "EL"
        exact ⟨w, a6, b6, w1, by omega, g6, rfl⟩
      · exact ⟨t3, a5, b5, ht3, hl3, g5, rfl⟩
    rintro _ ⟨t4, a6, b6, ht4, hl4, g6, rfl⟩
    wide_line with [cut_to (show 0 ≤ most by omega)]
    refine ⟨by omega, _, a6, b6, ht4.take _, ?_, g6, rfl⟩
    rw [List.length_take]
    omega
  · obtain ⟨t, a, b, s4, s5, ht, hl, g, rfl, f4, f5⟩ := hI
    refine ⟨_, if_pos f4, ?_⟩
    wide_line with [List.length_map]
    refine (draw_ok g (n := ws.length) (by omega) (by omega)).mono ?_
    rintro _ ⟨k1, a2, b2, u0, u1, g2, rfl⟩
    obtain ⟨v, hv, ev⟩ := ati_nat (xs := ws) u0 u1
    have mv := hw.all v (List.mem_of_getElem? hv)
    have mv2 := mv.most
    row_walk with [ati_map, ev, store_gen f5]
    refine ⟨by omega, by rw [List.length_append]; omega, ?_⟩
    split
    · rename_i hle
      refine ⟨by omega, t ++ v, a2, b2, _, _, ht.app mv.lr, hle, g2, rfl, rfl, rfl⟩
    · exact ⟨t, a2, b2, _, _, ht, hl, g2, rfl, rfl, rfl⟩
end QL

end
section
set_option maxHeartbeats 1000000
/-! texts of any signs; table_of; spoilt texts and tables -/
namespace QL
open PySem PySem.Spec L2 QW
local macro_rules | `(tactic| walk_at "EV") => `(tactic| simp only [ws_raise, ws_try, ws_tryR, we_mtS, as_e, as_str, D.asI, wo_none, wo_some, we_slice, wp_exc, ws_seq, ws_if, ws_nil, ws_let, ws_set, ws_ret, ws_asg, ws_par, par_2, next_nx, ws_expr, ws_sub, ws_for, then_nx, then_rt, let_sh, let_ow, set_sh, set_ow, store_un, store_sh, store_ow, ret_sh, ret_ow, ret_al, back_sh, back_ow, own_ow, run_nx, run_rt, wb_val, bl_is, wb_and, wb_or, wb_not, ds_e, ds_l, ds_r, ds_lr, ds_u, ds_v, ds_U, ds_V, ds_uv, ds_uvUV, ds_mi, ds_n0, ds_n1, ds_co, ds_sl, ds_bl, ds_rr, ds_rrr, ds_ll, we_bin, we_chain, chain_b, we_un, we_if, we_and, we_or, we_not, we_name, slot_sh, slot_ow, we_share, share_sh, share_ow, we_c, we_tup, we_lst, we_callB, we_isT, we_call, we_mut, wl_nil, wl_cons, wp_bind, wp_ok, wp_opt, at_some, at_map, List.map_cons, List.map_nil, Ar.sl, List.length_cons, List.length_nil, List.cons_append, List.nil_append, List.getElem?_cons_zero, List.getElem?_cons_succ, List.set_cons_zero, List.set_cons_succ, Res.get, Res.own, owns, gets, argsOf, lentS, backS, Ar.res, outsOf, Option.map_some, Option.bind_some, Bool.true_eq_false, Bool.false_eq_true, if_true, if_false, g_lst, g_tup, g_clst, g_ctup, s_lst, p_add, p_sub, p_mul, p_mod, p_fdiv, p_pow, p_neg, p_lt, p_le, p_gt, p_ge, p_eqI, p_neI, p_mulT, p_mulL, p_addT, p_addL, p_slT, p_slL, p_start, p_start3, p_end, p_lenT, p_abs, p_ii_max, p_ii_min, Res.norm, ix_0, ix_1, ix_2, ix_3, n3_0, n3_1, n3_2, List.replicate, decide_eq_true_eq, and_true, true_and, List.nodup_nil, List.nodup_cons, List.not_mem_nil, not_false_eq_true, gSet, fr_un, fr_sh, fr_ow, eq_self, gTupD, gsCons, gsNil, lp_nil, lp_cons, loop_nx, loop_rt, wi_any, wk_l, wk_t, wk_c, wi_r1, wi_r2, asI1, asI2, rng_2, rng_4, isL, isDi, ap_M, tu_l, tu_t, ld_l, ld_t, len_l, len_t, len_c, len_ct, int_b, int_i, wb_yes, we_comp, lc_nil, isTn, forD_sh, ws_forD, we_compD, compD_sh, ko_k, ko_t, we_dget, we_dget2, is_dk, is_dt, wi_enu, as_L, Bool.not_true, Bool.not_false, Bool.and_self, Int.reduceAdd, Int.reduceSub, Int.reduceMul, Int.reduceNeg, Int.reducePow, Int.reduceToNat, Nat.reduceLT, Int.reduceLT, Int.reduceLE, Nat.reduceAdd, Nat.reduceSub, Nat.reduceLeDiff, Nat.reduceEqDiff])
local macro_rules | `(tactic| walk_at "EL") => `(tactic| simp only [ws_raise, ws_try, ws_tryR, we_mtS, as_e, as_str, D.asI, wo_none, wo_some, we_slice, wp_exc, ws_seq, ws_if, ws_nil, ws_let, ws_set, ws_ret, ws_asg, ws_par, par_2, next_nx, ws_expr, ws_sub, ws_for, then_nx, then_rt, let_sh, let_ow, set_sh, set_ow, store_un, store_sh, store_ow, ret_sh, ret_ow, ret_al, back_sh, back_ow, own_ow, run_nx, run_rt, wb_val, bl_is, wb_and, wb_or, wb_not, ds_e, ds_l, ds_r, ds_lr, ds_u, ds_v, ds_U, ds_V, ds_uv, ds_uvUV, ds_mi, ds_n0, ds_n1, ds_co, ds_sl, ds_bl, ds_rr, ds_rrr, ds_ll, we_bin, we_chain, chain_b, we_un, we_if, we_and, we_or, we_not, we_name, slot_sh, slot_ow, we_share, share_sh, share_ow, we_c, we_tup, we_lst, we_callB, we_isT, we_call, we_mut, wl_nil, wl_cons, wp_bind, wp_ok, wp_opt, at_some, at_map, List.map_cons, List.map_nil, Ar.sl, List.length_cons, List.length_nil, List.cons_append, List.nil_append, List.getElem?_cons_zero, List.getElem?_cons_succ, List.set_cons_zero, List.set_cons_succ, Res.get, Res.own, owns, gets, argsOf, lentS, backS, Ar.res, outsOf, Option.map_some, Option.bind_some, Bool.true_eq_false, Bool.false_eq_true, if_true, if_false, g_lst, g_tup, g_clst, g_ctup, s_lst, p_add, p_sub, p_mul, p_mod, p_fdiv, p_pow, p_neg, p_lt, p_le, p_gt, p_ge, p_eqI, p_neI, p_mulT, p_mulL, p_addT, p_addL, p_slT, p_slL, p_start, p_start3, p_end, p_lenT, p_abs, p_ii_max, p_ii_min, Res.norm, ix_0, ix_1, ix_2, ix_3, n3_0, n3_1, n3_2, List.replicate, decide_eq_true_eq, and_true, true_and, List.nodup_nil, List.nodup_cons, List.not_mem_nil, not_false_eq_true, gSet, fr_un, fr_sh, fr_ow, eq_self, gTupD, gsCons, gsNil, loop_nx, loop_rt, wi_any, wk_l, wk_t, wk_c, wi_r1, wi_r2, asI1, asI2, rng_2, rng_4, isL, isDi, ap_M, tu_l, tu_t, ld_l, ld_t, len_l, len_t, len_c, len_ct, int_b, int_i, wb_yes, we_comp, isTn, forD_sh, ws_forD, we_compD, compD_sh, ko_k, ko_t, we_dget, we_dget2, is_dk, is_dt, wi_enu, as_L, Bool.not_true, Bool.not_false, Bool.and_self, Int.reduceAdd, Int.reduceSub, Int.reduceMul, Int.reduceNeg, Int.reducePow, Int.reduceToNat, Nat.reduceLT, Int.reduceLT, Int.reduceLE, Nat.reduceAdd, Nat.reduceSub, Nat.reduceLeDiff, Nat.reduceEqDiff])
local macro_rules | `(tactic| walk_at "EI") => `(tactic| simp only [ws_raise, ws_try, ws_tryR, we_mtS, as_e, as_str, D.asI, wo_none, wo_some, we_slice, wp_exc, ws_seq, ws_nil, ws_let, ws_set, ws_ret, ws_asg, ws_par, par_2, next_nx, ws_expr, ws_sub, ws_for, then_nx, then_rt, let_sh, let_ow, set_sh, set_ow, store_un, store_sh, store_ow, ret_sh, ret_ow, ret_al, back_sh, back_ow, own_ow, run_nx, run_rt, wb_val, bl_is, wb_and, wb_or, wb_not, ds_e, ds_l, ds_r, ds_lr, ds_u, ds_v, ds_U, ds_V, ds_uv, ds_uvUV, ds_mi, ds_n0, ds_n1, ds_co, ds_sl, ds_bl, ds_rr, ds_rrr, ds_ll, we_bin, we_chain, chain_b, we_un, we_if, we_and, we_or, we_not, we_name, slot_sh, slot_ow, we_share, share_sh, share_ow, we_c, we_tup, we_lst, we_callB, we_isT, we_call, we_mut, wl_nil, wl_cons, wp_bind, wp_ok, wp_opt, at_some, at_map, List.map_cons, List.map_nil, Ar.sl, List.length_cons, List.length_nil, List.cons_append, List.nil_append, List.getElem?_cons_zero, List.getElem?_cons_succ, List.set_cons_zero, List.set_cons_succ, Res.get, Res.own, owns, gets, argsOf, lentS, backS, Ar.res, outsOf, Option.map_some, Option.bind_some, Bool.true_eq_false, Bool.false_eq_true, if_true, if_false, g_lst, g_tup, g_clst, g_ctup, s_lst, p_add, p_sub, p_mul, p_mod, p_fdiv, p_pow, p_neg, p_lt, p_le, p_gt, p_ge, p_eqI, p_neI, p_mulT, p_mulL, p_addT, p_addL, p_slT, p_slL, p_start, p_start3, p_end, p_lenT, p_abs, p_ii_max, p_ii_min, Res.norm, ix_0, ix_1, ix_2, ix_3, n3_0, n3_1, n3_2, List.replicate, decide_eq_true_eq, and_true, true_and, List.nodup_nil, List.nodup_cons, List.not_mem_nil, not_false_eq_true, gSet, fr_un, fr_sh, fr_ow, eq_self, gTupD, gsCons, gsNil, loop_nx, loop_rt, wi_any, wk_l, wk_t, wk_c, wi_r1, wi_r2, asI1, asI2, rng_2, rng_4, isL, isDi, ap_M, tu_l, tu_t, ld_l, ld_t, len_l, len_t, len_c, len_ct, int_b, int_i, wb_yes, we_comp, isTn, forD_sh, ws_forD, we_compD, compD_sh, ko_k, ko_t, we_dget, we_dget2, is_dk, is_dt, wi_enu, as_L, Bool.not_true, Bool.not_false, Bool.and_self, Int.reduceAdd, Int.reduceSub, Int.reduceMul, Int.reduceNeg, Int.reducePow, Int.reduceToNat, Nat.reduceLT, Int.reduceLT, Int.reduceLE, Nat.reduceAdd, Nat.reduceSub, Nat.reduceLeDiff, Nat.reduceEqDiff])
local macro_rules | `(tactic| row_walk with [$xs,*]) => `(tactic| simp only [ws_raise, ws_try, ws_tryR, we_mtS, as_e, as_str, D.asI, wo_none, wo_some, we_slice, wp_exc, ws_seq, ws_if, ws_nil, ws_let, ws_set, ws_ret, ws_asg, ws_par, par_2, next_nx, ws_expr, ws_sub, ws_for, then_nx, then_rt, let_sh, let_ow, set_sh, set_ow, store_un, store_sh, store_ow, ret_sh, ret_ow, ret_al, back_sh, back_ow, own_ow, run_nx, run_rt, wb_val, bl_is, wb_and, wb_or, wb_not, ds_e, ds_l, ds_r, ds_lr, ds_u, ds_v, ds_U, ds_V, ds_uv, ds_uvUV, ds_mi, ds_n0, ds_n1, ds_co, ds_sl, ds_bl, ds_rr, ds_rrr, ds_ll, we_bin, we_chain, chain_b, we_un, we_if, we_and, we_or, we_not, we_name, slot_sh, slot_ow, we_share, share_sh, share_ow, we_c, we_tup, we_lst, we_callB, we_isT, we_call, we_mut, wl_nil, wl_cons, wp_bind, wp_ok, wp_opt, at_some, at_map, List.map_cons, List.map_nil, Ar.sl, List.length_cons, List.length_nil, List.cons_append, List.nil_append, List.getElem?_cons_zero, List.getElem?_cons_succ, List.set_cons_zero, List.set_cons_succ, Res.get, Res.own, owns, gets, argsOf, lentS, backS, Ar.res, outsOf, Option.map_some, Option.bind_some, Bool.true_eq_false, Bool.false_eq_true, if_true, if_false, g_lst, g_tup, g_clst, g_ctup, s_lst, p_add, p_sub, p_mul, p_mod, p_fdiv, p_pow, p_neg, p_lt, p_le, p_gt, p_ge, p_eqI, p_neI, p_mulT, p_mulL, p_addT, p_addL, p_slT, p_slL, p_start, p_start3, p_end, p_lenT, p_abs, p_ii_max, p_ii_min, Res.norm, ix_0, ix_1, ix_2, ix_3, n3_0, n3_1, n3_2, List.replicate, decide_eq_true_eq, and_true, true_and, List.nodup_nil, List.nodup_cons, List.not_mem_nil, not_false_eq_true, gSet, fr_un, fr_sh, fr_ow, eq_self, gTupD, gsCons, gsNil, loop_nx, loop_rt, wi_any, wk_l, wk_t, wk_c, wi_r1, wi_r2, asI1, asI2, rng_2, rng_4, isL, isDi, ap_M, tu_l, tu_t, ld_l, ld_t, len_l, len_t, len_c, len_ct, int_b, int_i, wb_yes, we_comp, isTn, forD_sh, ws_forD, we_compD, compD_sh, ko_k, ko_t, we_dget, we_dget2, is_dk, is_dt, wi_enu, as_L, Bool.not_true, Bool.not_false, Bool.and_self, Int.reduceAdd, Int.reduceSub, Int.reduceMul, Int.reduceNeg, Int.reducePow, Int.reduceToNat, Nat.reduceLT, Int.reduceLT, Int.reduceLE, Nat.reduceAdd, Nat.reduceSub, Nat.reduceLeDiff, Nat.reduceEqDiff, $[$xs:term],*])
local macro_rules | `(tactic| wide_line with [$xs,*]) => `(tactic| simp only [ws_raise, ws_try, ws_tryR, we_mtS, as_e, as_str, D.asI, wo_none, wo_some, we_slice, wp_exc, ws_seq, ws_nil, ws_let, ws_set, ws_ret, ws_asg, ws_par, par_2, next_nx, ws_expr, ws_sub, ws_for, then_nx, then_rt, let_sh, let_ow, set_sh, set_ow, store_un, store_sh, store_ow, ret_sh, ret_ow, ret_al, back_sh, back_ow, own_ow, run_nx, run_rt, wb_val, bl_is, wb_and, wb_or, wb_not, ds_e, ds_l, ds_r, ds_lr, ds_u, ds_v, ds_U, ds_V, ds_uv, ds_uvUV, ds_mi, ds_n0, ds_n1, ds_co, ds_sl, ds_bl, ds_rr, ds_rrr, ds_ll, we_bin, we_chain, chain_b, we_un, we_if, we_and, we_or, we_not, we_name, slot_sh, slot_ow, we_share, share_sh, share_ow, we_c, we_tup, we_lst, we_callB, we_isT, we_call, we_mut, wl_nil, wl_cons, wp_bind, wp_ok, wp_opt, at_some, at_map, List.map_cons, List.map_nil, Ar.sl, List.length_cons, List.length_nil, List.cons_append, List.nil_append, List.getElem?_cons_zero, List.getElem?_cons_succ, List.set_cons_zero, List.set_cons_succ, Res.get, Res.own, owns, gets, argsOf, lentS, backS, Ar.res, outsOf, Option.map_some, Option.bind_some, Bool.true_eq_false, Bool.false_eq_true, if_true, if_false, g_lst, g_tup, g_clst, g_ctup, s_lst, p_add, p_sub, p_mul, p_mod, p_fdiv, p_pow, p_neg, p_lt, p_le, p_gt, p_ge, p_eqI, p_neI, p_mulT, p_mulL, p_addT, p_addL, p_slT, p_slL, p_start, p_start3, p_end, p_lenT, p_abs, p_ii_max, p_ii_min, Res.norm, ix_0, ix_1, ix_2, ix_3, n3_0, n3_1, n3_2, List.replicate, decide_eq_true_eq, and_true, true_and, List.nodup_nil, List.nodup_cons, List.not_mem_nil, not_false_eq_true, gSet, fr_un, fr_sh, fr_ow, eq_self, gTupD, gsCons, gsNil, loop_nx, loop_rt, wi_any, wk_l, wk_t, wk_c, wi_r1, wi_r2, asI1, asI2, rng_2, rng_4, isL, isDi, ap_M, tu_l, tu_t, ld_l, ld_t, len_l, len_t, len_c, len_ct, int_b, int_i, wb_yes, we_comp, isTn, forD_sh, ws_forD, we_compD, compD_sh, ko_k, ko_t, we_dget, we_dget2, is_dk, is_dt, wi_enu, as_L, Bool.not_true, Bool.not_false, Bool.and_self, Int.reduceAdd, Int.reduceSub, Int.reduceMul, Int.reduceNeg, Int.reducePow, Int.reduceToNat, Nat.reduceLT, Int.reduceLT, Int.reduceLE, Nat.reduceAdd, Nat.reduceSub, Nat.reduceLeDiff, Nat.reduceEqDiff, $[$xs:term],*])
theorem draw_big {a b m n : Int} (g : Good a b m) (h0 : 0 < n) (h1 : n < 2 ^ 128) : Wp N0 (f_law_draw [.ow (dr a b m), .sh (.int n)]) fun p => ∃ r a' b', 0 ≤ r ∧ r < n ∧ Good a' b' m ∧ p = (.sh (.int r), [.ow (dr a' b' m), .sh (.int n)]) := by
  obtain ⟨ga, ga1, gb, gb1, gm, gm1⟩ := g
  unfold f_law_draw c_law_draw
  rw [wp_run]
  walk_at "EV"
  split
  · rename_i h
    refine ⟨h0, ⟨h0, lg1 (n := 128) (by omega) (by decide) (by decide)⟩, ?_⟩
    exact ⟨a % n, a / n, b, Int.emod_nonneg _ (by omega), Int.emod_lt_of_pos _ h0, ⟨Int.ediv_nonneg ga (by omega), Int.lt_of_le_of_lt (Int.ediv_le_self _ ga) ga1, gb, gb1, gm, gm1⟩, rfl⟩
  · rename_i h
    have e0 := Int.emod_nonneg (b * 69621) (show m ≠ 0 by omega)
    have e1 := Int.emod_lt_of_pos (b * 69621) gm
    generalize b * 69621 % m = b' at e0 e1
    refine ⟨lg (n := 33) (k := 33) (by omega) (by decide) (by decide) (by decide) (by decide), gm, by decide, lg (n := 33) (k := 33) (by omega) (by omega) (by decide) (by decide) (by decide), by decide, h0, ?_⟩
    exact ⟨_, a, b' + 1, Int.emod_nonneg _ (by omega), Int.emod_lt_of_pos _ h0, ⟨ga, ga1, by omega, by omega, gm, gm1⟩, rfl⟩
theorem product_ok2 {b b' : Bool} {x y : T4} {n k : Nat} (hx : Bd n x) (hy : Bd k y) (h : n + k ≤ 1000000) (h0 : 0 < n) (h1 : 0 < k) : Wp N0 (fproduct [.sh (dC b x), .sh (dC b' y)]) fun p => p = (.sh (dT (mulT x y)), [.sh (dC b x), .sh (dC b' y)]) := by
  unfold fproduct cproduct
  rw [wp_run]
  cases b <;> cases b'
  all_goals
    unfold dC
    walk_at "EV"
    exact ⟨lg hx.a hy.a h h0 h1, lg hx.b hy.c h h0 h1, lg hx.a hy.b h h0 h1, lg hx.b hy.d h h0 h1, lg hx.c hy.a h h0 h1, lg hx.d hy.c h h0 h1, lg hx.c hy.b h h0 h1, lg hx.d hy.d h h0 h1, rfl⟩
abbrev PLt : GTab := [([108], .ctup [.int 1, .int 0, .int 1, .int 1]), ([114], .ctup [.int 1, .int 1, .int 0, .int 1])]
def isLR (c : Nat) : Prop := c = 108 ∨ c = 114
instance (c : Nat) : Decidable (isLR c) := by unfold isLR; infer_instance
instance (w : List Nat) : Decidable (LR w) := by unfold LR; infer_instance
theorem nm_pl {c : Nat} : nmGP PLt (.str [c]) = some (.sh (.bl (!decide (isLR c)))) := by
  show some (Res.sh (.bl (!(valG PLt [c]).isSome))) = _
  congr 4
  unfold valG isLR
  by_cases h1 : c = 108
  · subst h1; rfl
  · by_cases h2 : c = 114
    · subst h2; rfl
    · have e1 : decide (([108] : List Nat) = [c]) = false := by simpa using fun z => h1 z.symm
      have e2 : decide (([114] : List Nat) = [c]) = false := by simpa using fun z => h2 z.symm
      rw [List.find?_cons, e1, List.find?_cons, e2]
      simp [h1, h2]
theorem get_pl {c : Nat} (h : isLR c) : getGP PLt (.str [c]) = some (.sh (dC true (letT c))) := by
  rcases h with rfl | rfl <;> rfl
theorem fold_tab (acc : T4) (w : List Nat) : w.foldl (fun x c => mulT x (letT c)) acc = mulT acc (tabW w) := by
  rw [← List.foldl_map, fold_mul]
  rfl
/-- no text of at most 400 letters l, r -/
def notW (t : List Nat) : Prop := ¬ (LR t ∧ t.length ≤ 400)
theorem table_of_ok {t : List Nat} (ht : t.length ≤ 1000000) : Wp (fun c outs => notW t ∧ c = "NoWord" ∧ outs = [.sh (.str t)]) (ftable_of [.sh (.str t)]) fun p => (LR t ∧ t.length ≤ 400) ∧ ∃ b, p = (.sh (dC b (tabW t)), [.sh (.str t)]) := by
  unfold ftable_of ctable_of
  rw [wp_run]
  row_walk with [wk_s]
  refine ⟨ht, ?_⟩
  split
  · rename_i h
    exact fun z => by have := z.2; omega
  · rename_i h
    refine wp_loop (fun ds ρ => ∃ (k v : List Nat) (b : Bool) (s2 : Sl), k ++ v = t ∧ LR k ∧ ds = v.map (fun c => D.str [c]) ∧ ρ = [.sh (.str t), .sh (dC b (tabW k)), s2] ∧ s2.free = true) (fun ρ hI => ?_) (fun d ds ρ hI => ?_) _ _ ⟨[], t, true, .un, rfl, LR.nil, rfl, rfl, rfl⟩
    · obtain ⟨k, v, b, s2, hkv, hk, hd, rfl, f2⟩ := hI
      have : v = [] := by cases v with
        | nil => rfl
        | cons c v => cases hd
      subst this
      rw [List.append_nil] at hkv
      subst hkv
      cases b
      all_goals
        unfold dC
        walk_at "EL"
        exact ⟨⟨hk, by omega⟩, by first | exact ⟨true, rfl⟩ | exact ⟨false, rfl⟩⟩
    · obtain ⟨k, v, b, s2, hkv, hk, hd, rfl, f2⟩ := hI
      cases v with
      | nil => cases hd
      | cons c v =>
        cases hd
        refine ⟨_, if_pos f2, ?_⟩
        row_walk with [nm_pl]
        by_cases hc : isLR c
        · have hlen := congrArg List.length hkv
          rw [List.length_append, List.length_cons] at hlen
          rw [decide_eq_true hc]
          row_walk with [get_pl hc]
          refine (product_ok2 (b := b) (b' := true) (tab_bd k hk.isLet) let_bd (by omega) (by omega) (by omega)).mono ?_
          rintro _ rfl
          walk_at "EL"
          refine ⟨k ++ [c], v, false, .sh (.str [c]), by rw [List.append_assoc]; exact hkv, hk.app (LR.nil.cons hc), rfl, ?_, rfl⟩
          rw [tab_append, tab_cons, tab_nil, mul_one4]
          rfl
        · rw [decide_eq_false hc]
          walk_at "EL"
          exact fun z => hc (z.1 c (by rw [← hkv]; exact List.mem_append_right _ List.mem_cons_self))
/-- signs below 128 -/
def Asc (t : List Nat) : Prop := ∀ c ∈ t, c < 128
theorem Asc.app {v w : List Nat} (h : Asc v) (g : Asc w) : Asc (v ++ w) := fun x hx => (List.mem_append.mp hx).elim (h x) (g x)
theorem Asc.sub {v w : List Nat} (h : Asc w) (s : ∀ c ∈ v, c ∈ w) : Asc v := fun x hx => h x (s x hx)
theorem Asc.take {w : List Nat} (h : Asc w) (n : Nat) : Asc (w.take n) := h.sub fun _ hc => List.mem_of_mem_take hc
theorem Asc.drop {w : List Nat} (h : Asc w) (n : Nat) : Asc (w.drop n) := h.sub fun _ hc => List.mem_of_mem_drop hc
theorem Asc.nil : Asc [] := fun _ h => absurd h List.not_mem_nil
theorem Asc.one {c : Nat} (h : c < 128) : Asc [c] := fun x hx => by rw [List.mem_singleton.mp hx]; exact h
theorem LR.asc {w : List Nat} (h : LR w) : Asc w := fun c hc => by rcases h c hc with rfl | rfl <;> decide
theorem ok_asc {w : List Nat} (h : Asc w) (n : Nat) : okD n (.str w) = true := by
  have : w.all (· < 0x110000) = true := List.all_eq_true.mpr fun c hc => by have := h c hc; simp; omega
  cases n <;> exact this
theorem eq_asc {a b : List Nat} (ha : Asc a) (hb : Asc b) : eqP (.str a) (.str b) = some (.sh (.bl (decide (a = b)))) := by
  rw [p_eq (ok_asc ha 60) (ok_asc hb 60)]
  show some (Res.sh (.bl (a == b))) = _
  rw [str_beq]
theorem ne_asc {a b : List Nat} (ha : Asc a) (hb : Asc b) : neP (.str a) (.str b) = some (.sh (.bl (!decide (a = b)))) := by
  rw [p_ne (ok_asc ha 60) (ok_asc hb 60)]
  show some (Res.sh (.bl (!(a == b)))) = _
  rw [str_beq]
theorem eq_asc' {a b : List Nat} (ha : a.all (· < 128) = true) (hb : b.all (· < 128) = true) : eqP (.str a) (.str b) = some (.sh (.bl (decide (a = b)))) :=
  eq_asc (fun c hc => by simpa using List.all_eq_true.mp ha c hc) (fun c hc => by simpa using List.all_eq_true.mp hb c hc)
theorem ne_res {b : Bool} {x : T4} : neP (.tup [dC b x, .str []]) (.tup [dT x, .str []]) = some (.sh (.bl false)) := by
  cases b <;> (rw [p_ne rfl rfl]; simp [dC, deq, deqs])
theorem ne_tup2 {a b : D} (ha : okD 59 a = true) (hb : okD 59 b = true) : neP (.tup [a, b]) (.tup [a, b]) = some (.sh (.bl false)) := ne_same (by show (okD 59 a && (okD 59 b && true)) = true; rw [ha, hb]; rfl)
def sgA : List Nat := " !\"#$&'()*+,-./0123456789:;<=>?@".toList.map Char.toNat
def sgB : List Nat := "ABCDEFGHIJKLMNOPQRSTUVWXYZ[\\]^_`abcdefghijklmnopqrstuvwxyz{|}~\n".toList.map Char.toNat
def sgT : List Nat := sgA ++ sgB
theorem sg_eq : addP (dS " !\"#$&'()*+,-./0123456789:;<=>?@") (dS "ABCDEFGHIJKLMNOPQRSTUVWXYZ[\\]^_`abcdefghijklmnopqrstuvwxyz{|}~\n") = some (.sh (.str sgT)) := by
  obtain ⟨x, e, rfl⟩ := at_ex.mp ((p_addT (a := sgA) (b := sgB) (P := fun r => r = .sh (.str sgT))).mpr ⟨by decide +kernel, rfl⟩)
  exact e
theorem sg_len : sgT.length = 95 := by decide +kernel
theorem sg_asc : Asc sgT := by unfold Asc; decide +kernel
theorem bent_ok {a b m : Int} {t : List Nat} (g : Good a b m) (ht : t.length ≤ 100000) (ha : Asc t) : Wp N0 (f_law_bent [.sh (.str t), .ow (dr a b m)]) fun p => ∃ u a' b', Asc u ∧ u.length ≤ t.length + 1 ∧ Good a' b' m ∧ p = (.sh (.str u), [.sh (.str t), .ow (dr a' b' m)]) := by
  unfold f_law_bent c_law_bent
  rw [wp_run]
  wide_line with [sg_eq]
  refine (draw_ok g (by decide) (by decide)).mono ?_
  rintro _ ⟨way, a1, b1, x0, x1, g1, rfl⟩
  walk_at "EI"
  wide_line with [sg_len]
  refine (draw_ok g1 (by decide) (by decide)).mono ?_
  rintro _ ⟨r2, a2, b2, y0, y1, g2, rfl⟩
  obtain ⟨c1, hc1, e1⟩ := ati_nat (xs := sgT) y0 (by rw [sg_len]; exact y1)
  wide_line with [gix_str (show sgT.length ≤ 1000000 by rw [sg_len]; decide), e1]
  refine (draw_ok g2 (by decide) (by decide)).mono ?_
  rintro _ ⟨r3, a3, b3, z0, z1, g3, rfl⟩
  obtain ⟨c2, hc2, e2⟩ := ati_nat (xs := [45, 32, 48]) z0 (by simpa using z1)
  have ed : dS "- 0" = .str [45, 32, 48] := rfl
  wide_line with [ed, gix_str (show [45, 32, 48].length ≤ 1000000 by decide), e2]
  refine (draw_ok g3 (by decide) (by decide)).mono ?_
  rintro _ ⟨r4, a4, b4, u0, u1, g4, rfl⟩
  obtain ⟨d, ed4, c, rfl, hc⟩ := at_all (xs := [D.str [c1], D.str [c2]]) (i := r4) (fun d => ∃ c, d = .str [c] ∧ c < 128) u0 (by simpa using u1) (by
    intro d hd
    simp only [List.mem_cons, List.not_mem_nil, or_false] at hd
    rcases hd with rfl | rfl
    · exact ⟨c1, rfl, sg_asc c1 (List.mem_of_getElem? hc1)⟩
    · refine ⟨c2, rfl, ?_⟩
      have := List.mem_of_getElem? hc2
      simp only [List.mem_cons, List.not_mem_nil, or_false] at this
      omega)
  wide_line with [ed4]
  refine ⟨by omega, ?_⟩
  refine (draw_ok g4 (by omega) (by omega)).mono ?_
  rintro _ ⟨at_, a5, b5, v0, v1, g5, rfl⟩
  row_walk with [cut_to v0, cut_from (show 0 ≤ at_ + 1 by omega), cut_from v0, cut_to (show 0 ≤ at_ + 1 by omega), cut_from (show 0 ≤ at_ + way by omega)]
  split
  · refine ⟨by omega, by rw [List.length_take]; omega, by omega, by rw [List.length_append, List.length_take, List.length_drop]; (try simp only [List.length_cons, List.length_nil]); omega, _, a5, b5, ((ha.take _).app (Asc.one hc)).app (ha.drop _), ?_, g5, rfl⟩
    rw [List.length_append, List.length_append, List.length_take, List.length_drop]
    simp only [List.length_cons, List.length_nil]
    omega
  · split
    · refine ⟨by omega, by omega, by rw [List.length_take, List.length_drop]; omega, _, a5, b5, (ha.take _).app (ha.drop _), ?_, g5, rfl⟩
      rw [List.length_append, List.length_take, List.length_drop]
      omega
    · refine ⟨by omega, by omega, by rw [List.length_take, List.length_drop]; omega, _, a5, b5, (ha.take _).app (ha.drop _), ?_, g5, rfl⟩
      rw [List.length_append, List.length_take, List.length_drop]
      omega
theorem of_four' {ds : List D} {n : Nat} (hl : ds.length = 4) (h : ∀ d ∈ ds, ∃ i : Int, d = .int i ∧ i.natAbs < 2 ^ n) : ∃ x : T4, ds = [.int x.a, .int x.b, .int x.c, .int x.d] ∧ Bd n x := by
  obtain ⟨x, e, hx⟩ := of_four hl h
  exact ⟨x, by injection e, hx⟩
theorem bent_table_ok {a b m : Int} {x : T4} {n : Nat} (g : Good a b m) (hx : Bd n x) : Wp N0 (f_law_bent_table [.ow (dr a b m), .sh (dT x)]) fun p => ∃ y a' b', Bd (n + 1) y ∧ Good a' b' m ∧ p = (.sh (dT y), [.ow (dr a' b' m), .sh (dT x)]) := by
  unfold f_law_bent_table c_law_bent_table
  rw [wp_run]
  walk_at "EI"
  refine (draw_ok g (by decide) (by decide)).mono ?_
  rintro _ ⟨k, a1, b1, x0, x1, g1, rfl⟩
  walk_at "EI"
  refine (draw_ok g1 (by decide) (by decide)).mono ?_
  rintro _ ⟨j, a2, b2, y0, y1, g2, rfl⟩
  walk_at "EI"
  refine Wp.mono (Q := fun z => ∃ (y : T4) (a b : Int), Bd (n + 1) y ∧ Good a b m ∧ z = .nx [.ow true (dr a b m), .sh (dT x), .sh (.int k), .sh (.int j), .ow false (.lst [.int y.a, .int y.b, .int y.c, .int y.d])]) ?_ ?_
  · have hat : ∀ i : Int, 0 ≤ i → i < 4 → ∃ v : Int, atI [D.int x.a, .int x.b, .int x.c, .int x.d] i = some (.int v) ∧ v.natAbs < 2 ^ n := fun i h0 h1 => by
      obtain ⟨d, e, v, rfl, hv⟩ := at_all (xs := [D.int x.a, .int x.b, .int x.c, .int x.d]) (i := i) (fun d => ∃ v : Int, d = .int v ∧ v.natAbs < 2 ^ n) h0 (by simpa using h1) (by
        intro d hd
        simp only [List.mem_cons, List.not_mem_nil, or_false] at hd
        rcases hd with rfl | rfl | rfl | rfl
        · exact ⟨_, rfl, hx.a⟩
        · exact ⟨_, rfl, hx.b⟩
        · exact ⟨_, rfl, hx.c⟩
        · exact ⟨_, rfl, hx.d⟩)
      exact ⟨v, e, hv⟩
    have hset : ∀ {ds : List D} {i v : Int}, ds.length = 4 → (∀ d ∈ ds, ∃ i : Int, d = .int i ∧ i.natAbs < 2 ^ (n + 1)) → v.natAbs < 2 ^ (n + 1) → 0 ≤ i → i < 4 → ∃ es : List D, ixN ds.length i = some i.toNat ∧ es = ds.set i.toNat (.int v) ∧ es.length = 4 ∧ ∀ d ∈ es, ∃ i : Int, d = .int i ∧ i.natAbs < 2 ^ (n + 1) := fun {ds i v} hl hd hv h0 h1 => by
      refine ⟨_, ?_, rfl, by rw [List.length_set]; exact hl, fun d h => ?_⟩
      · unfold ixN
        rw [if_pos h0, if_pos (by rw [hl]; exact h1)]
      · rcases List.mem_or_eq_of_mem_set h with h | rfl
        · exact hd d h
        · exact ⟨v, rfl, hv⟩
    have h4 : ∀ d ∈ [D.int x.a, .int x.b, .int x.c, .int x.d], ∃ i : Int, d = .int i ∧ i.natAbs < 2 ^ (n + 1) := by
      have hp : 2 ^ n ≤ 2 ^ (n + 1) := Nat.pow_le_pow_right (by decide) (Nat.le_succ n)
      intro d hd
      simp only [List.mem_cons, List.not_mem_nil, or_false] at hd
      rcases hd with rfl | rfl | rfl | rfl
      · exact ⟨_, rfl, Nat.lt_of_lt_of_le hx.a hp⟩
      · exact ⟨_, rfl, Nat.lt_of_lt_of_le hx.b hp⟩
      · exact ⟨_, rfl, Nat.lt_of_lt_of_le hx.c hp⟩
      · exact ⟨_, rfl, Nat.lt_of_lt_of_le hx.d hp⟩
    have hp : 2 ^ n ≤ 2 ^ (n + 1) := Nat.pow_le_pow_right (by decide) (Nat.le_succ n)
    walk_at "EL"
    refine (draw_ok g2 (by decide) (by decide)).mono ?_
    rintro _ ⟨r, a3, b3, z0, z1, g3, rfl⟩
    obtain ⟨vk, ek, hk⟩ := hat k x0 x1
    obtain ⟨vj, ej, hj⟩ := hat j y0 y1
    walk_at "EL"
    split
    · row_walk with [ek]
      refine (draw_ok g3 (by decide) (by decide)).mono ?_
      rintro _ ⟨q, a4, b4, u0, u1, g4, rfl⟩
      obtain ⟨es, e1, e2, e3, e4⟩ := hset (ds := [D.int x.a, .int x.b, .int x.c, .int x.d]) (i := k) (v := vk + q - 1) rfl h4 (by rw [Nat.pow_succ]; omega) x0 x1
      obtain ⟨y, ey, hy⟩ := of_four' e3 e4
      have e1 : ixN 4 k = some k.toNat := e1
      row_walk with [e1]
      rw [← e2, ey]
      exact ⟨y, a4, b4, hy, g4, rfl⟩
    · row_walk with [ej, ek]
      obtain ⟨es, e1, e2, e3, e4⟩ := hset (ds := [D.int x.a, .int x.b, .int x.c, .int x.d]) (i := k) (v := vj) rfl h4 (by omega) x0 x1
      have e1 : ixN 4 k = some k.toNat := e1
      obtain ⟨fs, f1, f2, f3, f4⟩ := hset (ds := es) (i := j) (v := vk) e3 e4 (by omega) y0 y1
      obtain ⟨y, ey, hy⟩ := of_four' f3 f4
      row_walk with [e1]
      rw [← e2]
      row_walk with [ek, f1]
      rw [← f2, ey]
      exact ⟨y, a3, b3, hy, g3, rfl⟩
  · rintro _ ⟨y, a3, b3, hy, g3, rfl⟩
    walk_at "EI"
    exact ⟨y, a3, b3, hy, g3, rfl⟩
end QL

end
section
set_option maxHeartbeats 1000000
/-! all rows of so many makers, in their order: plain Lean -/
namespace QL
open PySem PySem.Spec L2 QW
def allR (m : Nat) : Nat → List (List Nat)
  | 0 => [[]]
  | n + 1 => (allR m n).flatMap fun r => (List.range m).map fun k => r ++ [k]
theorem allR_cons (m : Nat) : ∀ n, allR m (n + 1) = (List.range m).flatMap fun k => (allR m n).map fun r => k :: r
  | 0 => by
    simp only [allR, List.flatMap_cons, List.flatMap_nil, List.append_nil, List.map_cons, List.map_nil, List.nil_append]
    exact List.map_eq_flatMap
  | n + 1 => by
    have e : allR m (n + 1 + 1) = (allR m (n + 1)).flatMap fun r => (List.range m).map fun k => r ++ [k] := rfl
    rw [e]
    conv => lhs; rw [allR_cons m n, List.flatMap_assoc]
    congr 1
    funext k
    have e2 : allR m (n + 1) = (allR m n).flatMap fun r => (List.range m).map fun k => r ++ [k] := rfl
    rw [List.flatMap_map, e2, List.map_flatMap]
    congr 1
    funext r
    rw [List.map_map]
    rfl
theorem allR_mem {m : Nat} : ∀ {n : Nat} {r : List Nat}, r ∈ allR m n → r.length = n ∧ ∀ k ∈ r, k < m
  | 0, r, h => by
    have : r = [] := by simpa [allR] using h
    subst this
    exact ⟨rfl, fun k hk => absurd hk List.not_mem_nil⟩
  | n + 1, r, h => by
    rw [allR_cons] at h
    obtain ⟨k, hk, h⟩ := List.mem_flatMap.mp h
    obtain ⟨r', hr, rfl⟩ := List.mem_map.mp h
    obtain ⟨h1, h2⟩ := allR_mem hr
    exact ⟨by rw [List.length_cons, h1], fun x hx => (List.mem_cons.mp hx).elim (fun z => z ▸ List.mem_range.mp hk) (h2 x)⟩
theorem catR_cons (ws : List (List Nat)) (k : Nat) (r : List Nat) : catR ws (k :: r) = ws.getD k [] ++ catR ws r := rfl
theorem catR_app (ws : List (List Nat)) (r q : List Nat) : catR ws (r ++ q) = catR ws r ++ catR ws q := by
  unfold catR
  rw [List.map_append, List.flatten_append]
theorem catR_one (ws : List (List Nat)) (k : Nat) : catR ws [k] = ws.getD k [] := by
  unfold catR
  simp
theorem cons_eq (ws : List (List Nat)) (k : Nat) (r t : List Nat) : catR ws (k :: r) = t ↔ (ws.getD k []).isPrefixOf t = true ∧ catR ws r = t.drop (ws.getD k []).length := by
  rw [catR_cons, List.isPrefixOf_iff_prefix]
  constructor
  · rintro rfl
    exact ⟨List.prefix_append _ _, by rw [List.drop_left]⟩
  · rintro ⟨⟨a, rfl⟩, h⟩
    rw [List.drop_left] at h
    rw [h]
theorem range_map {α : Type} (ws : List (List Nat)) (f : List Nat → α) : ((List.range ws.length).map fun k => f (ws.getD k [])) = ws.map f := by
  refine List.ext_getElem? fun i => ?_
  rw [List.getElem?_map, List.getElem?_map]
  by_cases h : i < ws.length
  · rw [List.getElem?_range h, List.getElem?_eq_getElem h]
    simp [List.getD_eq_getElem?_getD, List.getElem?_eq_getElem h]
  · rw [List.getElem?_eq_none (by simp; omega), List.getElem?_eq_none (by omega)]
    rfl
theorem len_flatMap {α β : Type} (p : β → Bool) (f : α → List β) : ∀ xs : List α, ((xs.flatMap f).filter p).length = (xs.map fun x => ((f x).filter p).length).sum
  | [] => rfl
  | x :: xs => by
    rw [List.flatMap_cons, List.filter_append, List.length_append, len_flatMap p f xs, List.map_cons, List.sum_cons]
/-- how many rows of n makers make a text -/
theorem cnt_allR (ws : List (List Nat)) : ∀ (n : Nat) (t : List Nat), ((allR ws.length n).filter fun r => decide (catR ws r = t)).length = cntL ws n t
  | 0, t => by
    show (([[]] : List (List Nat)).filter fun r => decide (catR ws r = t)).length = if t = [] then 1 else 0
    by_cases h : t = []
    · subst h
      rfl
    · rw [if_neg h, List.filter_cons_of_neg (by simpa [catR] using h)]
      rfl
  | n + 1, t => by
    rw [allR_cons, len_flatMap]
    show _ = (ws.map fun w => if w.isPrefixOf t = true then cntL ws n (t.drop w.length) else 0).sum
    rw [← range_map ws fun w => if w.isPrefixOf t = true then cntL ws n (t.drop w.length) else 0]
    congr 1
    refine List.map_congr_left fun k _ => ?_
    rw [List.filter_map, List.length_map]
    have e : ((fun r => decide (catR ws r = t)) ∘ fun r => k :: r) = fun r => decide ((ws.getD k []).isPrefixOf t = true ∧ catR ws r = t.drop (ws.getD k []).length) := by
      funext r
      exact decide_eq_decide.mpr (cons_eq ws k r t)
    rw [e]
    by_cases h : (ws.getD k []).isPrefixOf t = true
    · rw [if_pos h, ← cnt_allR ws n]
      congr 2
      funext r
      exact decide_eq_decide.mpr ⟨fun z => z.2, fun z => ⟨h, z⟩⟩
    · rw [if_neg h, List.filter_eq_nil_iff.mpr fun r _ => by rw [decide_eq_true_eq]; exact fun y => h y.1]
      rfl
def allTo (m : Nat) : Nat → List (List Nat)
  | 0 => allR m 0
  | n + 1 => allTo m n ++ allR m (n + 1)
theorem cnt_allTo (ws : List (List Nat)) (t : List Nat) : ∀ n : Nat, ((allTo ws.length n).filter fun r => decide (catR ws r = t)).length = totL ws n t
  | 0 => cnt_allR ws 0 t
  | n + 1 => by
    show ((allTo ws.length n ++ allR ws.length (n + 1)).filter _).length = totL ws n t + cntL ws (n + 1) t
    rw [List.filter_append, List.length_append, cnt_allTo ws t n, cnt_allR]
theorem find_flatMap {α β : Type} (p : β → Bool) (f : α → List β) : ∀ xs : List α, (xs.flatMap f).find? p = xs.findSome? fun x => (f x).find? p
  | [] => rfl
  | x :: xs => by
    rw [List.flatMap_cons, List.find?_append, find_flatMap p f xs, List.findSome?_cons]
    cases (f x).find? p <;> rfl
theorem find_none_of {ws : List (List Nat)} {n : Nat} {t : List Nat} (h : cntL ws n t = 0) : (allR ws.length n).find? (fun r => decide (catR ws r = t)) = none := by
  rw [← cnt_allR, List.length_eq_zero_iff, List.filter_eq_nil_iff] at h
  rw [List.find?_eq_none]
  exact h
theorem findSome_at {α β : Type} {f : α → Option β} {y : β} : ∀ {xs : List α} {i : Nat} {x : α}, xs[i]? = some x → f x = some y → (∀ j, j < i → ∀ z, xs[j]? = some z → f z = none) → xs.findSome? f = some y
  | [], _, _, h, _, _ => by simp at h
  | x :: xs, 0, z, h, e, _ => by
    have : x = z := by simpa using h
    subst this
    rw [List.findSome?_cons, e]
  | x :: xs, i + 1, z, h, e, g => by
    rw [List.findSome?_cons, g 0 (by omega) x rfl]
    exact findSome_at (by simpa using h) e fun j hj z hz => g (j + 1) (by omega) z (by simpa using hz)
/-- the first row of all with as few makers as can be is the least one -/
theorem find_greedy {ws : List (List Nat)} (hw : ∀ w ∈ ws, w ≠ []) : ∀ (b : Nat) (t : List Nat), (restT ws t).1 = some b → (allR ws.length b).find? (fun r => decide (catR ws r = t)) = some (greedy ws b t)
  | 0, t, h => by
    rw [best_zero hw h]
    rfl
  | b + 1, t, h => by
    obtain ⟨w, e, hp, hr⟩ := firstK_ok hw h
    have hlt := (List.getElem?_eq_some_iff.mp e).1
    have eg : ∀ {k : Nat} {v : List Nat}, ws[k]? = some v → ws.getD k [] = v := fun {k v} e => by rw [List.getD_eq_getElem?_getD, e]; rfl
    have step : ∀ k : Nat, ((allR ws.length b).map fun r => k :: r).find? (fun r => decide (catR ws r = t)) = if (ws.getD k []).isPrefixOf t = true then ((allR ws.length b).find? fun r => decide (catR ws r = t.drop (ws.getD k []).length)).map (k :: ·) else none := fun k => by
      rw [List.find?_map]
      have e : ((fun r => decide (catR ws r = t)) ∘ fun r => k :: r) = fun r => decide ((ws.getD k []).isPrefixOf t = true ∧ catR ws r = t.drop (ws.getD k []).length) := by
        funext r
        exact decide_eq_decide.mpr (cons_eq ws k r t)
      rw [e]
      by_cases z : (ws.getD k []).isPrefixOf t = true
      · rw [if_pos z]
        congr 2
        funext r
        exact decide_eq_decide.mpr ⟨fun y => y.2, fun y => ⟨z, y⟩⟩
      · rw [if_neg z, List.find?_eq_none.mpr fun r _ => by rw [decide_eq_true_eq]; exact fun y => z y.1]
        rfl
    rw [allR_cons, find_flatMap]
    refine findSome_at (i := firstK ws t b) (x := firstK ws t b) (List.getElem?_range hlt) ?_ fun j hj z hz => ?_
    · rw [step, eg e, if_pos hp, find_greedy hw b _ hr]
      show some (firstK ws t b :: greedy ws b (t.drop w.length)) = some (firstK ws t b :: greedy ws b (t.drop (ws.getD (firstK ws t b) []).length))
      rw [eg e]
    · rw [List.getElem?_range (by omega)] at hz
      cases hz
      obtain ⟨v, hv⟩ : ∃ v, ws[j]? = some v := ⟨ws[j]'(by omega), List.getElem?_eq_getElem (by omega)⟩
      rw [step, eg hv]
      by_cases hpv : v.isPrefixOf t = true
      · rw [if_pos hpv]
        have hng : ¬ (restT ws (t.drop v.length)).1 = some b := fun hg => by
          have := List.not_of_lt_findIdx hj
          have e : ws[j]'(by omega) = v := (List.getElem?_eq_some_iff.mp hv).2
          rw [e] at this
          unfold goodK at this
          rw [hpv, hg] at this
          simp at this
        have h0 : cntL ws b (t.drop v.length) = 0 := by
          refine Classical.byContradiction fun n => ?_
          have hvm : v ∈ ws := List.mem_of_getElem? hv
          have hd := best_ok hw _ (t.drop v.length) (Nat.le_refl _)
          have hb := best_ok hw _ t (Nat.le_refl _)
          rw [h] at hb
          cases ed : (restT ws (t.drop v.length)).1 with
          | none =>
            rw [ed] at hd
            exact n (hd b)
          | some c =>
            rw [ed] at hd
            have c1 : 0 < cntL ws c (t.drop v.length) := hd.1
            have c2 := hd.2 b
            have cb : c ≠ b := fun z => hng (by rw [ed, z])
            have : c < b := by
              by_cases y : b < c
              · exact absurd (c2 y) n
              · omega
            have hz2 : cntL ws (c + 1) t = 0 := hb.2 (c + 1) (by omega)
            have hs := le_sum (f := fun w => if w.isPrefixOf t = true then cntL ws c (t.drop w.length) else 0) hvm
            simp only [hpv, if_true] at hs
            have z3 : cntL ws (c + 1) t = (ws.map fun w => if w.isPrefixOf t = true then cntL ws c (t.drop w.length) else 0).sum := rfl
            omega
        rw [find_none_of h0]
        rfl
      · rw [if_neg hpv]
theorem find_allTo {ws : List (List Nat)} (hw : ∀ w ∈ ws, w ≠ []) {b : Nat} {t : List Nat} (h : (restT ws t).1 = some b) : ∀ n, (allTo ws.length n).find? (fun r => decide (catR ws r = t)) = if b ≤ n then some (greedy ws b t) else none := by
  have hb := best_ok hw _ t (Nat.le_refl _)
  rw [h] at hb
  have at_ : ∀ n, (allR ws.length n).find? (fun r => decide (catR ws r = t)) = if n < b then none else if n = b then some (greedy ws b t) else (allR ws.length n).find? (fun r => decide (catR ws r = t)) := fun n => by
    by_cases z : n < b
    · rw [if_pos z]
      exact find_none_of (hb.2 n z)
    · rw [if_neg z]
      by_cases y : n = b
      · rw [if_pos y, y]
        exact find_greedy hw b t h
      · rw [if_neg y]
  intro n
  induction n with
  | zero =>
    show (allR ws.length 0).find? _ = _
    rw [at_ 0]
    by_cases z : 0 < b
    · rw [if_pos z, if_neg (by omega)]
    · rw [if_neg z, if_pos (by omega), if_pos (by omega)]
  | succ n ih =>
    show (allTo ws.length n ++ allR ws.length (n + 1)).find? _ = _
    rw [List.find?_append, ih]
    by_cases z : b ≤ n
    · rw [if_pos z, if_pos (by omega)]
      rfl
    · rw [if_neg z, at_ (n + 1)]
      by_cases y : n + 1 < b
      · rw [if_pos y, if_neg (by omega)]
        rfl
      · rw [if_neg y, if_pos (by omega), if_pos (by omega)]
        rfl
/-- a row that is found first is the least one -/
theorem found_least {ws : List (List Nat)} (hw : ∀ w ∈ ws, w ≠ []) {n : Nat} {r : List Nat} (h : (allTo ws.length n).find? (fun q => decide (catR ws q = catR ws r)) = some r) : rowT ws (catR ws r) = some r := by
  have hm := List.mem_of_find?_eq_some h
  have hb := best_ok hw _ (catR ws r) (Nat.le_refl _)
  cases e : (restT ws (catR ws r)).1 with
  | none =>
    rw [e] at hb
    have h0 : totL ws n (catR ws r) = 0 := by
      have : ∀ n, totL ws n (catR ws r) = 0 := fun n => by
        induction n with
        | zero => exact hb 0
        | succ n ih =>
          have z : cntL ws (n + 1) (catR ws r) = 0 := hb (n + 1)
          show totL ws n (catR ws r) + cntL ws (n + 1) (catR ws r) = 0
          rw [ih, z]
      exact this n
    rw [← cnt_allTo, List.length_eq_zero_iff, List.filter_eq_nil_iff] at h0
    exact absurd (by simp) (h0 r hm)
  | some b =>
    have := find_allTo hw e n
    rw [h] at this
    by_cases z : b ≤ n
    · rw [if_pos z] at this
      unfold rowT
      rw [e]
      exact this.symm
    · rw [if_neg z] at this; cases this
end QL

end
section
set_option maxHeartbeats 1000000
/-! what is made of words; needed words: plain Lean -/
namespace QL
open PySem PySem.Spec L2 QW
/-- a text put together of words -/
inductive Gen (ws : List (List Nat)) : List Nat → Prop where
  | nil : Gen ws []
  | cons {w t : List Nat} : w ∈ ws → Gen ws t → Gen ws (w ++ t)
theorem Gen.one {ws : List (List Nat)} {w : List Nat} (h : w ∈ ws) : Gen ws w := by
  have := Gen.cons h Gen.nil
  rwa [List.append_nil] at this
theorem Gen.app {ws : List (List Nat)} {s t : List Nat} (h : Gen ws s) (g : Gen ws t) : Gen ws (s ++ t) := by
  induction h with
  | nil => exact g
  | cons hw _ ih => rw [List.append_assoc]; exact .cons hw ih
theorem Gen.mono {ws vs : List (List Nat)} {t : List Nat} (h : ∀ w ∈ ws, Gen vs w) (g : Gen ws t) : Gen vs t := by
  induction g with
  | nil => exact .nil
  | cons hw _ ih => exact (h _ hw).app ih
theorem Gen.sub {ws vs : List (List Nat)} {t : List Nat} (h : ∀ w ∈ ws, w ∈ vs) (g : Gen ws t) : Gen vs t := g.mono fun w hw => .one (h w hw)
theorem Gen.lr {ws : List (List Nat)} (h : ∀ w ∈ ws, LR w) {t : List Nat} (g : Gen ws t) : LR t := by
  induction g with
  | nil => exact LR.nil
  | cons hw _ ih => exact (h _ hw).app ih
theorem gen_cat {ws : List (List Nat)} : ∀ {r : List Nat}, (∀ k ∈ r, k < ws.length) → Gen ws (catR ws r)
  | [], _ => .nil
  | k :: r, h => by
    have hk := h k List.mem_cons_self
    rw [catR_cons]
    refine .cons ?_ (gen_cat fun x hx => h x (List.mem_cons_of_mem _ hx))
    rw [List.getD_eq_getElem?_getD, List.getElem?_eq_getElem hk]
    exact List.getElem_mem hk
theorem gen_cntL {ws : List (List Nat)} {t : List Nat} (g : Gen ws t) : ∃ L, 0 < cntL ws L t := by
  induction g with
  | nil => exact ⟨0, Nat.zero_lt_one⟩
  | @cons w t hw g ih =>
    obtain ⟨L, hL⟩ := ih
    refine ⟨L + 1, ?_⟩
    have hp : w.isPrefixOf (w ++ t) = true := List.isPrefixOf_iff_prefix.mpr (List.prefix_append _ _)
    have := le_sum (f := fun v => if v.isPrefixOf (w ++ t) = true then cntL ws L ((w ++ t).drop v.length) else 0) hw
    simp only [hp, if_true, List.drop_left] at this
    exact Nat.lt_of_lt_of_le hL this
theorem cntL_gen {ws : List (List Nat)} : ∀ {L : Nat} {t : List Nat}, 0 < cntL ws L t → Gen ws t
  | 0, t, h => by
    by_cases z : t = []
    · rw [z]; exact .nil
    · have : cntL ws 0 t = 0 := if_neg z
      omega
  | L + 1, t, h => by
    obtain ⟨w, hm, hp⟩ := sum_pos h
    by_cases z : w.isPrefixOf t = true
    · rw [if_pos z] at hp
      obtain ⟨a, rfl⟩ := List.isPrefixOf_iff_prefix.mp z
      rw [List.drop_left] at hp
      exact .cons hm (cntL_gen hp)
    · rw [if_neg z] at hp; omega
/-- it is told so just where it is made -/
theorem made_iff {ws : List (List Nat)} (hw : ∀ w ∈ ws, w ≠ []) {t : List Nat} : (restT ws t).1 ≠ none ↔ Gen ws t := by
  have hb := best_ok hw _ t (Nat.le_refl _)
  constructor
  · intro h
    cases e : (restT ws t).1 with
    | none => exact absurd e h
    | some b => rw [e] at hb; exact cntL_gen hb.1
  · intro g e
    rw [e] at hb
    obtain ⟨L, hL⟩ := gen_cntL g
    have := hb L
    simp only at this
    omega
theorem row_none {ws : List (List Nat)} (hw : ∀ w ∈ ws, w ≠ []) {t : List Nat} : rowT ws t = none ↔ ¬ Gen ws t := by
  unfold rowT
  rw [Option.map_eq_none_iff, ← made_iff hw]
  exact ⟨fun h n => n h, fun h => Classical.byContradiction h⟩
noncomputable instance (ws : List (List Nat)) (t : List Nat) : Decidable (Gen ws t) := Classical.propDecidable _
/-- a text of two words and more is longer than each -/
theorem gen_short {ws : List (List Nat)} (hw : ∀ w ∈ ws, w ≠ []) {t : List Nat} (g : Gen ws t) : ∀ v, ¬ v ∈ ws → t = v → v ≠ [] → Gen (ws.filter fun w => decide (w.length < v.length)) v := by
  intro v hv e hv0
  have key : ∀ {t : List Nat}, Gen ws t → t.length ≤ v.length → (t.length < v.length ∨ t = v) → Gen (ws.filter fun w => decide (w.length < v.length)) t := fun {t} g => by
    induction g with
    | nil => intro _ _; exact .nil
    | @cons w t hm g ih =>
      intro hl hor
      rw [List.length_append] at hl
      have h0 : 0 < w.length := List.length_pos_iff.mpr (hw w hm)
      have hlt : w.length < v.length := by
        refine Nat.lt_of_le_of_ne (by omega) fun z => ?_
        have ht : t = [] := List.length_eq_zero_iff.mp (by omega)
        subst ht
        rw [List.append_nil] at hor
        rcases hor with h | h
        · omega
        · exact hv (h ▸ hm)
      exact .cons (List.mem_filter.mpr ⟨hm, by simpa using hlt⟩) (ih (by omega) (.inl (by omega)))
  subst e
  exact key g (Nat.le_refl _) (.inr rfl)
/-- a word that the others don't make -/
def Need (ws : List (List Nat)) (w : List Nat) : Prop := w ∈ ws ∧ ¬ Gen (ws.filter fun v => decide (v ≠ w)) w
/-- the needed ones make all -/
theorem need_all {ws : List (List Nat)} (hw : ∀ w ∈ ws, w ≠ []) {ns : List (List Nat)} (hn : ∀ w, Need ws w → w ∈ ns) : ∀ (n : Nat) (w : List Nat), w.length ≤ n → w ∈ ws → Gen ns w
  | 0, w, h, hm => absurd (List.length_eq_zero_iff.mp (Nat.le_zero.mp h)) (hw w hm)
  | n + 1, w, h, hm => by
    by_cases hN : Gen (ws.filter fun v => decide (v ≠ w)) w
    · have hs := gen_short (ws := ws.filter fun v => decide (v ≠ w)) (fun v hv => hw v (List.mem_filter.mp hv).1) hN w (fun z => by simpa using (List.mem_filter.mp z).2) rfl (hw w hm)
      refine hs.mono fun v hv => ?_
      obtain ⟨h1, h2⟩ := List.mem_filter.mp hv
      have h2 : v.length < w.length := by simpa using h2
      exact need_all hw hn n v (by omega) (List.mem_filter.mp h1).1
    · exact .one (hn w ⟨hm, hN⟩)
/-- without one of the needed ones not all is made -/
theorem need_less {ws : List (List Nat)} {w : List Nat} (h : Need ws w) {vs : List (List Nat)} (hv : ∀ v ∈ vs, v ∈ ws ∧ v ≠ w) : ¬ Gen vs w := fun g => h.2 (g.sub fun v hm => List.mem_filter.mpr ⟨(hv v hm).1, by simpa using (hv v hm).2⟩)
/-- the needed ones' numbers -/
noncomputable def needK (ws : List (List Nat)) (n : Nat) : List Nat := (List.range n).filter fun k => decide (ws.getD k [] ∉ ws.take k ∧ ¬ Gen (ws.filter fun v => decide (v ≠ ws.getD k [])) (ws.getD k []))
theorem needK_succ (ws : List (List Nat)) (n : Nat) : needK ws (n + 1) = needK ws n ++ if ws.getD n [] ∉ ws.take n ∧ ¬ Gen (ws.filter fun v => decide (v ≠ ws.getD n [])) (ws.getD n []) then [n] else [] := by
  unfold needK
  rw [List.range_succ, List.filter_append]
  congr 1
  split
  · rename_i h
    rw [List.filter_cons_of_pos (by simpa using h)]
    rfl
  · rename_i h
    rw [List.filter_cons_of_neg (by simpa using h)]
    rfl
theorem needK_mem {ws : List (List Nat)} {k : Nat} (h : k ∈ needK ws ws.length) : k < ws.length ∧ Need ws (ws.getD k []) ∧ ws.getD k [] ∉ ws.take k := by
  unfold needK at h
  obtain ⟨h1, h2⟩ := List.mem_filter.mp h
  rw [decide_eq_true_eq] at h2
  have h1 := List.mem_range.mp h1
  refine ⟨h1, ⟨?_, h2.2⟩, h2.1⟩
  rw [List.getD_eq_getElem?_getD, List.getElem?_eq_getElem h1]
  exact List.getElem_mem h1
theorem needK_all {ws : List (List Nat)} {w : List Nat} (h : Need ws w) : w ∈ (needK ws ws.length).map fun k => ws.getD k [] := by
  have hlt : ws.findIdx (fun v => decide (v = w)) < ws.length := List.findIdx_lt_length_of_exists ⟨w, h.1, by simp⟩
  have e : ws.getD (ws.findIdx fun v => decide (v = w)) [] = w := by
    rw [List.getD_eq_getElem?_getD, List.getElem?_eq_getElem hlt]
    simpa using List.findIdx_getElem (w := hlt)
  refine List.mem_map.mpr ⟨ws.findIdx fun v => decide (v = w), ?_, e⟩
  unfold needK
  refine List.mem_filter.mpr ⟨List.mem_range.mpr hlt, ?_⟩
  rw [decide_eq_true_eq, e]
  refine ⟨fun z => ?_, h.2⟩
  obtain ⟨i, hi, ei⟩ := List.getElem_of_mem z
  rw [List.length_take] at hi
  rw [List.getElem_take] at ei
  have := List.not_of_lt_findIdx (p := fun v => decide (v = w)) (xs := ws) (i := i) (by omega)
  simp [ei] at this
theorem needK_nodup {ws : List (List Nat)} {i j : Nat} (hi : i ∈ needK ws ws.length) (hj : j ∈ needK ws ws.length) (hij : i < j) : ws.getD i [] ≠ ws.getD j [] := fun z => by
  obtain ⟨h1, _, _⟩ := needK_mem hi
  obtain ⟨h2, _, h3⟩ := needK_mem hj
  refine h3 ?_
  rw [← z, List.getD_eq_getElem?_getD, List.getElem?_eq_getElem h1]
  have : i < (ws.take j).length := by rw [List.length_take]; omega
  have e : (ws.take j)[i] = ws[i] := List.getElem_take
  simp only [Option.getD_some]
  rw [← e]
  exact List.getElem_mem this
end QL

end
section
set_option maxHeartbeats 1000000
/-! needed makers, the same makers -/
namespace QL
open PySem PySem.Spec L2 QW
local macro_rules | `(tactic| walk_at "EL") => `(tactic| simp only [ws_raise, ws_try, ws_tryR, we_mtS, as_e, as_str, D.asI, wo_none, wo_some, we_slice, wp_exc, ws_seq, ws_if, ws_nil, ws_let, ws_set, ws_ret, ws_asg, ws_par, par_2, next_nx, ws_expr, ws_sub, ws_for, then_nx, then_rt, let_sh, let_ow, set_sh, set_ow, store_un, store_sh, store_ow, ret_sh, ret_ow, ret_al, back_sh, back_ow, own_ow, run_nx, run_rt, wb_val, bl_is, wb_and, wb_or, wb_not, ds_e, ds_l, ds_r, ds_lr, ds_u, ds_v, ds_U, ds_V, ds_uv, ds_uvUV, ds_mi, ds_n0, ds_n1, ds_co, ds_sl, ds_bl, ds_rr, ds_rrr, ds_ll, we_bin, we_chain, chain_b, we_un, we_if, we_and, we_or, we_not, we_name, slot_sh, slot_ow, we_share, share_sh, share_ow, we_c, we_tup, we_lst, we_callB, we_isT, we_call, we_mut, wl_nil, wl_cons, wp_bind, wp_ok, wp_opt, at_some, at_map, List.map_cons, List.map_nil, Ar.sl, List.length_cons, List.length_nil, List.cons_append, List.nil_append, List.getElem?_cons_zero, List.getElem?_cons_succ, List.set_cons_zero, List.set_cons_succ, Res.get, Res.own, owns, gets, argsOf, lentS, backS, Ar.res, outsOf, Option.map_some, Option.bind_some, Bool.true_eq_false, Bool.false_eq_true, if_true, if_false, g_lst, g_tup, g_clst, g_ctup, s_lst, p_add, p_sub, p_mul, p_mod, p_fdiv, p_pow, p_neg, p_lt, p_le, p_gt, p_ge, p_eqI, p_neI, p_mulT, p_mulL, p_addT, p_addL, p_slT, p_slL, p_start, p_start3, p_end, p_lenT, p_abs, p_ii_max, p_ii_min, Res.norm, ix_0, ix_1, ix_2, ix_3, n3_0, n3_1, n3_2, List.replicate, decide_eq_true_eq, and_true, true_and, List.nodup_nil, List.nodup_cons, List.not_mem_nil, not_false_eq_true, gSet, fr_un, fr_sh, fr_ow, eq_self, gTupD, gsCons, gsNil, loop_nx, loop_rt, wi_any, wk_l, wk_t, wk_c, wi_r1, wi_r2, asI1, asI2, rng_2, rng_4, isL, isDi, ap_M, tu_l, tu_t, ld_l, ld_t, len_l, len_t, len_c, len_ct, int_b, int_i, wb_yes, we_comp, isTn, forD_sh, ws_forD, we_compD, compD_sh, ko_k, ko_t, we_dget, we_dget2, is_dk, is_dt, wi_enu, as_L, Bool.not_true, Bool.not_false, Bool.and_self, Int.reduceAdd, Int.reduceSub, Int.reduceMul, Int.reduceNeg, Int.reducePow, Int.reduceToNat, Nat.reduceLT, Int.reduceLT, Int.reduceLE, Nat.reduceAdd, Nat.reduceSub, Nat.reduceLeDiff, Nat.reduceEqDiff])
local macro_rules | `(tactic| walk_at "EI") => `(tactic| simp only [ws_raise, ws_try, ws_tryR, we_mtS, as_e, as_str, D.asI, wo_none, wo_some, we_slice, wp_exc, ws_seq, ws_nil, ws_let, ws_set, ws_ret, ws_asg, ws_par, par_2, next_nx, ws_expr, ws_sub, ws_for, then_nx, then_rt, let_sh, let_ow, set_sh, set_ow, store_un, store_sh, store_ow, ret_sh, ret_ow, ret_al, back_sh, back_ow, own_ow, run_nx, run_rt, wb_val, bl_is, wb_and, wb_or, wb_not, ds_e, ds_l, ds_r, ds_lr, ds_u, ds_v, ds_U, ds_V, ds_uv, ds_uvUV, ds_mi, ds_n0, ds_n1, ds_co, ds_sl, ds_bl, ds_rr, ds_rrr, ds_ll, we_bin, we_chain, chain_b, we_un, we_if, we_and, we_or, we_not, we_name, slot_sh, slot_ow, we_share, share_sh, share_ow, we_c, we_tup, we_lst, we_callB, we_isT, we_call, we_mut, wl_nil, wl_cons, wp_bind, wp_ok, wp_opt, at_some, at_map, List.map_cons, List.map_nil, Ar.sl, List.length_cons, List.length_nil, List.cons_append, List.nil_append, List.getElem?_cons_zero, List.getElem?_cons_succ, List.set_cons_zero, List.set_cons_succ, Res.get, Res.own, owns, gets, argsOf, lentS, backS, Ar.res, outsOf, Option.map_some, Option.bind_some, Bool.true_eq_false, Bool.false_eq_true, if_true, if_false, g_lst, g_tup, g_clst, g_ctup, s_lst, p_add, p_sub, p_mul, p_mod, p_fdiv, p_pow, p_neg, p_lt, p_le, p_gt, p_ge, p_eqI, p_neI, p_mulT, p_mulL, p_addT, p_addL, p_slT, p_slL, p_start, p_start3, p_end, p_lenT, p_abs, p_ii_max, p_ii_min, Res.norm, ix_0, ix_1, ix_2, ix_3, n3_0, n3_1, n3_2, List.replicate, decide_eq_true_eq, and_true, true_and, List.nodup_nil, List.nodup_cons, List.not_mem_nil, not_false_eq_true, gSet, fr_un, fr_sh, fr_ow, eq_self, gTupD, gsCons, gsNil, loop_nx, loop_rt, wi_any, wk_l, wk_t, wk_c, wi_r1, wi_r2, asI1, asI2, rng_2, rng_4, isL, isDi, ap_M, tu_l, tu_t, ld_l, ld_t, len_l, len_t, len_c, len_ct, int_b, int_i, wb_yes, we_comp, isTn, forD_sh, ws_forD, we_compD, compD_sh, ko_k, ko_t, we_dget, we_dget2, is_dk, is_dt, wi_enu, as_L, Bool.not_true, Bool.not_false, Bool.and_self, Int.reduceAdd, Int.reduceSub, Int.reduceMul, Int.reduceNeg, Int.reducePow, Int.reduceToNat, Nat.reduceLT, Int.reduceLT, Int.reduceLE, Nat.reduceAdd, Nat.reduceSub, Nat.reduceLeDiff, Nat.reduceEqDiff])
local macro_rules | `(tactic| row_walk with [$xs,*]) => `(tactic| simp only [ws_raise, ws_try, ws_tryR, we_mtS, as_e, as_str, D.asI, wo_none, wo_some, we_slice, wp_exc, ws_seq, ws_if, ws_nil, ws_let, ws_set, ws_ret, ws_asg, ws_par, par_2, next_nx, ws_expr, ws_sub, ws_for, then_nx, then_rt, let_sh, let_ow, set_sh, set_ow, store_un, store_sh, store_ow, ret_sh, ret_ow, ret_al, back_sh, back_ow, own_ow, run_nx, run_rt, wb_val, bl_is, wb_and, wb_or, wb_not, ds_e, ds_l, ds_r, ds_lr, ds_u, ds_v, ds_U, ds_V, ds_uv, ds_uvUV, ds_mi, ds_n0, ds_n1, ds_co, ds_sl, ds_bl, ds_rr, ds_rrr, ds_ll, we_bin, we_chain, chain_b, we_un, we_if, we_and, we_or, we_not, we_name, slot_sh, slot_ow, we_share, share_sh, share_ow, we_c, we_tup, we_lst, we_callB, we_isT, we_call, we_mut, wl_nil, wl_cons, wp_bind, wp_ok, wp_opt, at_some, at_map, List.map_cons, List.map_nil, Ar.sl, List.length_cons, List.length_nil, List.cons_append, List.nil_append, List.getElem?_cons_zero, List.getElem?_cons_succ, List.set_cons_zero, List.set_cons_succ, Res.get, Res.own, owns, gets, argsOf, lentS, backS, Ar.res, outsOf, Option.map_some, Option.bind_some, Bool.true_eq_false, Bool.false_eq_true, if_true, if_false, g_lst, g_tup, g_clst, g_ctup, s_lst, p_add, p_sub, p_mul, p_mod, p_fdiv, p_pow, p_neg, p_lt, p_le, p_gt, p_ge, p_eqI, p_neI, p_mulT, p_mulL, p_addT, p_addL, p_slT, p_slL, p_start, p_start3, p_end, p_lenT, p_abs, p_ii_max, p_ii_min, Res.norm, ix_0, ix_1, ix_2, ix_3, n3_0, n3_1, n3_2, List.replicate, decide_eq_true_eq, and_true, true_and, List.nodup_nil, List.nodup_cons, List.not_mem_nil, not_false_eq_true, gSet, fr_un, fr_sh, fr_ow, eq_self, gTupD, gsCons, gsNil, loop_nx, loop_rt, wi_any, wk_l, wk_t, wk_c, wi_r1, wi_r2, asI1, asI2, rng_2, rng_4, isL, isDi, ap_M, tu_l, tu_t, ld_l, ld_t, len_l, len_t, len_c, len_ct, int_b, int_i, wb_yes, we_comp, isTn, forD_sh, ws_forD, we_compD, compD_sh, ko_k, ko_t, we_dget, we_dget2, is_dk, is_dt, wi_enu, as_L, Bool.not_true, Bool.not_false, Bool.and_self, Int.reduceAdd, Int.reduceSub, Int.reduceMul, Int.reduceNeg, Int.reducePow, Int.reduceToNat, Nat.reduceLT, Int.reduceLT, Int.reduceLE, Nat.reduceAdd, Nat.reduceSub, Nat.reduceLeDiff, Nat.reduceEqDiff, $[$xs:term],*])
local macro_rules | `(tactic| wide_line with [$xs,*]) => `(tactic| simp only [ws_raise, ws_try, ws_tryR, we_mtS, as_e, as_str, D.asI, wo_none, wo_some, we_slice, wp_exc, ws_seq, ws_nil, ws_let, ws_set, ws_ret, ws_asg, ws_par, par_2, next_nx, ws_expr, ws_sub, ws_for, then_nx, then_rt, let_sh, let_ow, set_sh, set_ow, store_un, store_sh, store_ow, ret_sh, ret_ow, ret_al, back_sh, back_ow, own_ow, run_nx, run_rt, wb_val, bl_is, wb_and, wb_or, wb_not, ds_e, ds_l, ds_r, ds_lr, ds_u, ds_v, ds_U, ds_V, ds_uv, ds_uvUV, ds_mi, ds_n0, ds_n1, ds_co, ds_sl, ds_bl, ds_rr, ds_rrr, ds_ll, we_bin, we_chain, chain_b, we_un, we_if, we_and, we_or, we_not, we_name, slot_sh, slot_ow, we_share, share_sh, share_ow, we_c, we_tup, we_lst, we_callB, we_isT, we_call, we_mut, wl_nil, wl_cons, wp_bind, wp_ok, wp_opt, at_some, at_map, List.map_cons, List.map_nil, Ar.sl, List.length_cons, List.length_nil, List.cons_append, List.nil_append, List.getElem?_cons_zero, List.getElem?_cons_succ, List.set_cons_zero, List.set_cons_succ, Res.get, Res.own, owns, gets, argsOf, lentS, backS, Ar.res, outsOf, Option.map_some, Option.bind_some, Bool.true_eq_false, Bool.false_eq_true, if_true, if_false, g_lst, g_tup, g_clst, g_ctup, s_lst, p_add, p_sub, p_mul, p_mod, p_fdiv, p_pow, p_neg, p_lt, p_le, p_gt, p_ge, p_eqI, p_neI, p_mulT, p_mulL, p_addT, p_addL, p_slT, p_slL, p_start, p_start3, p_end, p_lenT, p_abs, p_ii_max, p_ii_min, Res.norm, ix_0, ix_1, ix_2, ix_3, n3_0, n3_1, n3_2, List.replicate, decide_eq_true_eq, and_true, true_and, List.nodup_nil, List.nodup_cons, List.not_mem_nil, not_false_eq_true, gSet, fr_un, fr_sh, fr_ow, eq_self, gTupD, gsCons, gsNil, loop_nx, loop_rt, wi_any, wk_l, wk_t, wk_c, wi_r1, wi_r2, asI1, asI2, rng_2, rng_4, isL, isDi, ap_M, tu_l, tu_t, ld_l, ld_t, len_l, len_t, len_c, len_ct, int_b, int_i, wb_yes, we_comp, isTn, forD_sh, ws_forD, we_compD, compD_sh, ko_k, ko_t, we_dget, we_dget2, is_dk, is_dt, wi_enu, as_L, Bool.not_true, Bool.not_false, Bool.and_self, Int.reduceAdd, Int.reduceSub, Int.reduceMul, Int.reduceNeg, Int.reducePow, Int.reduceToNat, Nat.reduceLT, Int.reduceLT, Int.reduceLE, Nat.reduceAdd, Nat.reduceSub, Nat.reduceLeDiff, Nat.reduceEqDiff, $[$xs:term],*])
theorem any_strs (ws : List (List Nat)) (w : List Nat) : ((ws.map D.str).any fun e => deq e (.str w)) = decide (w ∈ ws) := by
  rw [Bool.eq_iff_iff, List.any_eq_true, decide_eq_true_eq]
  constructor
  · rintro ⟨d, hd, h⟩
    obtain ⟨v, hv, rfl⟩ := List.mem_map.mp hd
    have : v = w := by simpa [deq] using h
    exact this ▸ hv
  · intro h
    exact ⟨_, List.mem_map.mpr ⟨w, h, rfl⟩, by simp [deq]⟩
theorem in_strs {ws : List (List Nat)} {w : List Nat} (hw : Asc w) (h : ∀ v ∈ ws, Asc v) : memP (.str w) (encW ws) = some (.sh (.bl (decide (w ∈ ws)))) := by
  rw [p_in (ok_asc hw 60) (okDs_map fun v hv => ok_asc (h v hv) 59), any_strs]
theorem nin_strs {ws : List (List Nat)} {w : List Nat} (hw : Asc w) (h : ∀ v ∈ ws, Asc v) : nmP (.str w) (encW ws) = some (.sh (.bl (!decide (w ∈ ws)))) := by
  rw [p_nin (ok_asc hw 60) (okDs_map fun v hv => ok_asc (h v hv) 59), any_strs]
theorem ne_nilA {ws : List (List Nat)} (h : ∀ w ∈ ws, Asc w) : neP (encW ws) (.lst []) = some (.sh (.bl (!decide (ws = [])))) := by
  rw [p_ne (show okD 60 (encW ws) = true from okDs_map fun v hv => ok_asc (h v hv) 59) rfl, deq_nil]
  congr 4
  simp
theorem eq_nilA {ws : List (List Nat)} (h : ∀ w ∈ ws, Asc w) : eqP (encW ws) (.lst []) = some (.sh (.bl (decide (ws = [])))) := by
  rw [p_eq (show okD 60 (encW ws) = true from okDs_map fun v hv => ok_asc (h v hv) 59) rfl, deq_nil]
  congr 3
  simp
theorem enum_drop {xs : List D} {k : Nat} {d : D} (h : xs[k]? = some d) : (enum xs).drop k = .tup [.int k, d] :: (enum xs).drop (k + 1) := by
  obtain ⟨hk, e⟩ := List.getElem?_eq_some_iff.mp h
  rw [List.drop_eq_getElem_cons (by rw [enum_len]; exact hk)]
  congr 1
  unfold enum
  simp [e]
theorem last_F {ws : List (List Nat)} (hw : ∀ w ∈ ws, w ≠ []) (t : List Nat) : atI (encF ws t t.length) (-1) = some (encP (restT ws t)) := by
  rw [ati_last (List.ne_nil_of_length_pos (by rw [List.length_map, List.length_range]; omega))]
  congr 1
  rw [List.getLast_eq_getElem]
  simp only [List.getElem_map, List.getElem_range, List.length_map, List.length_range, Nat.add_sub_cancel]
  rw [cF_rest hw, List.take_of_length_le (Nat.le_refl _)]
theorem gen_nil {t : List Nat} : Gen [] t ↔ t = [] := by
  constructor
  · intro h
    cases h with
    | nil => rfl
    | cons h _ => exact absurd h List.not_mem_nil
  · rintro rfl; exact .nil
theorem isn_row {ws : List (List Nat)} {t : List Nat} (hw : ∀ w ∈ ws, w ≠ []) : isNP (match rowT ws t with | none => .non | some r => encN r) .non = some (.sh (.bl (decide (¬ Gen ws t)))) := by
  cases e : rowT ws t with
  | none =>
    rw [decide_eq_true ((row_none hw).mp e)]
    rfl
  | some r =>
    rw [decide_eq_false fun n => by rw [(row_none hw).mpr n] at e; cases e]
    rfl
/-- row_for, told None or not -/
theorem row_is_none {ws : List (List Nat)} {t : List Nat} (hw : ∀ w ∈ ws, Mk w) (hl : ws.length ≤ 8) (ht : t.length ≤ 100000) {E : String → List Ar → Prop} {Q : Ar × List Ar → Prop} (h : ∀ r : Ar, isNP (match r with | .sh d => d | .ow d => d) .non = some (.sh (.bl (decide (¬ Gen ws t)))) → Q (r, [.sh (encW ws), .sh (.str t)])) : Wp E (frow_for [.sh (encW ws), .sh (.str t)]) Q := by
  have hne : ∀ w ∈ ws, w ≠ [] := fun w h => List.length_pos_iff.mp (hw w h).one
  refine (row_for_ok hw hl ht).mono ?_
  rintro _ rfl
  have := isn_row (t := t) hne
  cases e : rowT ws t with
  | none =>
    rw [e] at this
    exact h _ this
  | some r =>
    rw [e] at this
    exact h _ this
theorem is_get {r : Ar} {x : Bool} (h : isNP (match r with | .sh d => d | .ow d => d) .non = some (.sh (.bl x))) : ∃ d, (r = .sh d ∨ r = .ow d) ∧ isNP d .non = some (.sh (.bl x)) := by
  cases r with
  | sh d => exact ⟨d, .inl rfl, h⟩
  | ow d => exact ⟨d, .inr rfl, h⟩
theorem needed_ok {ws : List (List Nat)} (h : Mks ws) : Wp N0 (fneeded [.sh (encM ws)]) fun p => p = (.ow (encN (needK ws ws.length)), [.sh (encM ws)]) := by
  have hasc : ∀ w ∈ ws, Asc w := fun w hw => (h.all w hw).lr.asc
  have h8 := h.most
  unfold fneeded cneeded
  rw [wp_run]
  walk_at "EI"
  refine (words_of_ok h).mono ?_
  rintro _ rfl
  walk_at "EI"
  refine wp_loop (fun ds ρ => ∃ (k : Nat) (s3 s4 s5 : Sl), k ≤ ws.length ∧ ds = (enum (ws.map D.str)).drop k ∧ ρ = [.sh (encM ws), .sh (encW ws), .ow false (encN (needK ws k)), s3, s4, s5, .un] ∧ s3.free = true ∧ s4.free = true ∧ s5.free = true) (fun ρ hI => ?_) (fun d ds ρ hI => ?_) _ _ ⟨0, .un, .un, .un, Nat.zero_le _, rfl, rfl, rfl, rfl, rfl⟩
  · obtain ⟨k, s3, s4, s5, hk, hd, rfl, _⟩ := hI
    have : k = ws.length := by
      have := congrArg List.length hd
      rw [List.length_drop, enum_len, List.length_map, List.length_nil] at this
      omega
    subst this
    walk_at "EI"
  · obtain ⟨k, s3, s4, s5, hk, hd, rfl, f3, f4, f5⟩ := hI
    have hlt : k < ws.length := by
      have := congrArg List.length hd
      rw [List.length_drop, enum_len, List.length_map, List.length_cons] at this
      omega
    obtain ⟨w, hw⟩ : ∃ w, ws[k]? = some w := ⟨ws[k], List.getElem?_eq_getElem hlt⟩
    have hwm := List.mem_of_getElem? hw
    have mw := h.all w hwm
    have mw2 := mw.most
    have eg : ws.getD k [] = w := by rw [List.getD_eq_getElem?_getD, hw]; rfl
    rw [enum_drop (d := .str w) (by rw [List.getElem?_map, hw]; rfl)] at hd
    cases hd
    have e1 : (gTupD 2 (gsCons (gSet 3) (gsCons (gSet 4) gsNil))) (.tup [.int k, .str w]) [.sh (encM ws), .sh (encW ws), .ow false (encN (needK ws k)), s3, s4, s5, .un] = some [.sh (encM ws), .sh (encW ws), .ow false (encN (needK ws k)), .sh (.int k), .sh (.str w), s5, .un] := by
      wide_line with [f3, f4]
    refine ⟨_, e1, ?_⟩
    wide_line with [store_gen f5, List.length_map]
    refine ⟨⟨rfl, by omega⟩, ?_⟩
    refine (lc_filt (f := D.str) (g := D.str) (p := fun v => decide (v ≠ w)) rfl ws fun v hv => ?_).monoE ?_
    · wide_line with [ne_asc (hasc v hv) mw.lr.asc, decide_not]
      exact fun _ => trivial
    rintro _ rfl
    have hO : ∀ v ∈ ws.filter (fun v => decide (v ≠ w)), Mk v := fun v hv => h.all v (List.mem_filter.mp hv).1
    have hcut : cutD (ws.map D.str) none (some (k : Int)) = (ws.take k).map D.str := by rw [cut_to (by omega), Int.toNat_natCast, List.map_take]
    have hnin : nmP (.str w) (.lst ((ws.take k).map D.str)) = some (.sh (.bl (!decide (w ∈ ws.take k)))) := nin_strs mw.lr.asc fun v hv => hasc v (List.mem_of_mem_take hv)
    have hstep := needK_succ ws k
    rw [eg] at hstep
    row_walk with [store_gen f5, hcut, hnin]
    by_cases hin : w ∈ ws.take k
    · rw [decide_eq_true hin]
      walk_at "EL"
      refine ⟨k + 1, .sh (.int k), .sh (.str w), .sh (.lst ((ws.filter fun v => decide (v ≠ w)).map D.str)), by omega, rfl, ?_, rfl, rfl, rfl⟩
      rw [hstep, if_neg fun z => z.1 hin, List.append_nil]
    · rw [decide_eq_false hin]
      walk_at "EL"
      refine row_is_none hO (Nat.le_trans (List.length_filter_le _ _) h8) (by omega) fun r hr => ?_
      obtain ⟨d, hd, hr⟩ := is_get hr
      have hkl : (needK ws k).length ≤ 8 := by
        unfold needK
        refine Nat.le_trans (List.length_filter_le _ _) ?_
        rw [List.length_range]; omega
      rcases hd with rfl | rfl
      all_goals
        row_walk with [hr]
        by_cases hg : Gen (ws.filter fun v => decide (v ≠ w)) w
        · rw [if_neg fun n => n hg]
          refine ⟨k + 1, .sh (.int k), .sh (.str w), .sh (.lst ((ws.filter fun v => decide (v ≠ w)).map D.str)), by omega, rfl, ?_, rfl, rfl, rfl⟩
          rw [hstep, if_neg fun z => z.2 hg, List.append_nil]
        · rw [if_pos hg, List.length_map]
          refine ⟨by omega, k + 1, .sh (.int k), .sh (.str w), .sh (.lst ((ws.filter fun v => decide (v ≠ w)).map D.str)), by omega, rfl, ?_, rfl, rfl, rfl⟩
          rw [hstep, if_pos ⟨hin, hg⟩, encN_snoc]
theorem same_ok {ws vs : List (List Nat)} (h : Mks ws) (g : Mks vs) : Wp N0 (fsame [.sh (encM ws), .sh (encM vs)]) fun p => p = (.sh (.bl (decide ((∀ w ∈ ws, Gen vs w) ∧ ∀ v ∈ vs, Gen ws v))), [.sh (encM ws), .sh (encM vs)]) := by
  have h8 := h.most
  have g8 := g.most
  unfold fsame csame
  rw [wp_run]
  walk_at "EI"
  refine (words_of_ok h).mono ?_
  rintro _ rfl
  walk_at "EI"
  refine (words_of_ok g).mono ?_
  rintro _ rfl
  row_walk with [List.length_map]
  refine ⟨⟨rfl, by omega⟩, ?_⟩
  refine (lc_filt (f := D.str) (g := D.str) (p := fun v => decide (¬ Gen vs v)) rfl ws fun v hv => ?_).monoE ?_
  · walk_at "EI"
    refine row_is_none g.all g8 (by have := (h.all v hv).most; omega) fun r hr => ?_
    obtain ⟨d, hd, hr⟩ := is_get hr
    rcases hd with rfl | rfl
    all_goals
      wide_line with [hr]
      exact fun _ => trivial
  rintro _ rfl
  have e1 : neP (.lst ((ws.filter fun v => decide (¬ Gen vs v)).map D.str)) (.lst []) = some (.sh (.bl (!decide (∀ w ∈ ws, Gen vs w)))) := by
    refine (ne_nilA fun w hw => (h.all w (List.mem_filter.mp hw).1).lr.asc).trans ?_
    congr 4
    refine decide_eq_decide.mpr ?_
    rw [List.filter_eq_nil_iff]
    constructor
    · intro z w hw
      exact Classical.byContradiction fun n => z w hw (decide_eq_true n)
    · intro z w hw q
      exact of_decide_eq_true q (z w hw)
  have e2 : eqP (.lst ((vs.filter fun v => decide (¬ Gen ws v)).map D.str)) (.lst []) = some (.sh (.bl (decide (∀ w ∈ vs, Gen ws w)))) := by
    refine (eq_nilA fun w hw => (g.all w (List.mem_filter.mp hw).1).lr.asc).trans ?_
    congr 3
    refine decide_eq_decide.mpr ?_
    rw [List.filter_eq_nil_iff]
    constructor
    · intro z w hw
      exact Classical.byContradiction fun n => z w hw (decide_eq_true n)
    · intro z w hw q
      exact of_decide_eq_true q (z w hw)
  row_walk with [e1]
  by_cases hA : ∀ w ∈ ws, Gen vs w
  · rw [decide_eq_true hA]
    row_walk with [List.length_map]
    refine ⟨⟨rfl, by omega⟩, ?_⟩
    refine (lc_filt (f := D.str) (g := D.str) (p := fun v => decide (¬ Gen ws v)) rfl vs fun v hv => ?_).monoE ?_
    · walk_at "EI"
      refine row_is_none h.all h8 (by have := (g.all v hv).most; omega) fun r hr => ?_
      obtain ⟨d, hd, hr⟩ := is_get hr
      rcases hd with rfl | rfl
      all_goals
        wide_line with [hr]
        exact fun _ => trivial
    rintro _ rfl
    have e3 : (decide (∀ v ∈ vs, Gen ws v)) = decide ((∀ w ∈ ws, Gen vs w) ∧ ∀ v ∈ vs, Gen ws v) := decide_eq_decide.mpr ⟨fun z => ⟨hA, z⟩, fun z => z.2⟩
    row_walk with [e2]
    rw [e3]
  · rw [decide_eq_false hA, decide_eq_false fun z => hA z.1]
    walk_at "EL"
/-- other makers -/
theorem other_ok {a b m : Int} {ws ls : List (List Nat)} (gd : Good a b m) (h : Mks ws) (hl : Mks ls) : Wp N0 (f_law_other [.ow (dr a b m), .sh (encW ws), .sh (encW ls)]) fun p => ∃ vs a' b', Mks vs ∧ Good a' b' m ∧ p = (.ow (encW vs), [.ow (dr a' b' m), .sh (encW ws), .sh (encW ls)]) := by
  have h8 := h.most; have h1 := h.one
  have l8 := hl.most; have l1 := hl.one
  unfold f_law_other c_law_other
  rw [wp_run]
  walk_at "EI"
  refine (draw_ok gd (by decide) (by decide)).mono ?_
  rintro _ ⟨way, a1, b1, x0, x1, g1, rfl⟩
  walk_at "EI"
  refine wp_loop (fun ds ρ => ∃ (P Q vs : List (List Nat)) (a b : Int) (s5 : Sl), P ++ Q = ls ∧ ds = Q.map D.str ∧ (∀ v ∈ vs, Mk v) ∧ vs.length = P.length ∧ Good a b m ∧ ρ = [.ow true (dr a b m), .sh (encW ws), .sh (encW ls), .sh (.int way), .ow false (encW vs), s5, .un] ∧ s5.free = true) (fun ρ hI => ?_) (fun d ds ρ hI => ?_) _ _ ⟨[], ls, [], a1, b1, .un, rfl, rfl, fun _ h => absurd h List.not_mem_nil, rfl, g1, rfl, rfl⟩
  · obtain ⟨P, Q, vs, a, b, s5, hPQ, hQ, hvs, hvl, g, rfl, f5⟩ := hI
    have : Q = [] := by cases Q with
      | nil => rfl
      | cons q Q => cases hQ
    subst this
    rw [List.append_nil] at hPQ
    subst hPQ
    wide_line with [List.length_map]
    refine (draw_ok g (n := (vs.length : Int)) (by omega) (by omega)).mono ?_
    rintro _ ⟨at_, a2, b2, y0, y1, g2, rfl⟩
    walk_at "EI"
    obtain ⟨va, hva, eva⟩ := ati_nat (xs := vs) y0 y1
    have mva := hvs va (List.mem_of_getElem? hva)
    refine Wp.mono (Q := fun x => ∃ (us : List (List Nat)) (a b : Int), (∀ v ∈ us, Mk v) ∧ 1 ≤ us.length ∧ us.length ≤ 10 ∧ at_ < us.length ∧ Good a b m ∧ x = .nx [.ow true (dr a b m), .sh (encW ws), .sh (encW P), .sh (.int way), .ow false (encW us), s5, .sh (.int at_)]) ?_ ?_
    · walk_at "EL"
      split
      · row_walk with [ati_map, eva, List.length_map]
        refine (draw_ok g2 (n := (vs.length : Int)) (by omega) (by omega)).mono ?_
        rintro _ ⟨j, a3, b3, z0, z1, g3, rfl⟩
        obtain ⟨vj, hvj, evj⟩ := ati_nat (xs := vs) z0 z1
        have mvj := hvs vj (List.mem_of_getElem? hvj)
        have hwl : atI (ws.map D.str) (-1) = some (.str (ws.getLast (List.ne_nil_of_length_pos h1))) := by
          rw [ati_map, ati_last (List.ne_nil_of_length_pos h1)]
          rfl
        have mlast := h.all _ (List.getLast_mem (List.ne_nil_of_length_pos h1))
        have m1 := mva.most; have m2 := mvj.most; have m3 := mva.one
        row_walk with [ati_map, evj, hwl, cut_to (show (0 : Int) ≤ 40 by decide), List.length_map]
        refine ⟨by omega, by rw [List.length_append]; omega, by omega, vs ++ [(va ++ vj).take 40, ws.getLast (List.ne_nil_of_length_pos h1)], a3, b3, ?_, ?_, ?_, ?_, g3, ?_⟩
        · intro v hv
          rcases List.mem_append.mp hv with hv | hv
          · exact hvs v hv
          · simp only [List.mem_cons, List.not_mem_nil, or_false] at hv
            rcases hv with rfl | rfl
            · exact ⟨(mva.lr.app mvj.lr).take _, by rw [List.length_take, List.length_append]; omega, by rw [List.length_take]; omega⟩
            · exact mlast
        · rw [List.length_append]; omega
        · rw [List.length_append]; simp only [List.length_cons, List.length_nil]; omega
        · rw [List.length_append]; omega
        · simp only [encW, List.map_append]
          rfl
      · exact ⟨vs, a2, b2, hvs, by omega, by omega, y1, g2, rfl⟩
    rintro _ ⟨us, a3, b3, hus, u1, u10, uat, g3, rfl⟩
    walk_at "EI"
    refine Wp.mono (Q := fun x => ∃ (us : List (List Nat)) (a b : Int), (∀ v ∈ us, Mk v) ∧ 1 ≤ us.length ∧ us.length ≤ 10 ∧ (way = 2 → at_ < us.length) ∧ Good a b m ∧ x = .nx [.ow true (dr a b m), .sh (encW ws), .sh (encW P), .sh (.int way), .ow false (encW us), s5, .sh (.int at_)]) ?_ ?_
    · row_walk with [List.length_map]
      split
      · rename_i hway1
        have hway1 : way = 1 := by simpa using hway1
        split
        · have hcut1 : cutD (us.map D.str) none (some at_) = (us.take at_.toNat).map D.str := by rw [cut_to y0, List.map_take]
          have hcut2 : cutD (us.map D.str) (some (at_ + 1)) none = (us.drop (at_ + 1).toNat).map D.str := by rw [cut_from (by omega), List.map_drop]
          row_walk with [hcut1, hcut2, List.length_map]
          refine ⟨by rw [List.length_take, List.length_drop]; omega, us.take at_.toNat ++ us.drop (at_ + 1).toNat, a3, b3, ?_, ?_, ?_, fun z => ?_, g3, ?_⟩
          · intro v hv
            rcases List.mem_append.mp hv with hv | hv
            · exact hus v (List.mem_of_mem_take hv)
            · exact hus v (List.mem_of_mem_drop hv)
          · rw [List.length_append, List.length_take, List.length_drop]; omega
          · rw [List.length_append, List.length_take, List.length_drop]; omega
          · omega
          · simp only [encW, List.map_append]
        · exact ⟨us, a3, b3, hus, u1, u10, fun _ => uat, g3, rfl⟩
      · exact ⟨us, a3, b3, hus, u1, u10, fun _ => uat, g3, rfl⟩
    rintro _ ⟨ts, a4, b4, hts, t1, t10, tat, g4, rfl⟩
    walk_at "EI"
    refine Wp.mono (Q := fun x => ∃ (us : List (List Nat)) (a b : Int), (∀ v ∈ us, Mk v) ∧ 1 ≤ us.length ∧ us.length ≤ 10 ∧ Good a b m ∧ x = .nx [.ow true (dr a b m), .sh (encW ws), .sh (encW P), .sh (.int way), .ow false (encW us), s5, .sh (.int at_)]) ?_ ?_
    · walk_at "EL"
      split
      · rename_i hway
        refine (piece_ok g4 (by decide) (by decide)).mono ?_
        rintro _ ⟨w, a5, b5, w1, w2, w3, g5, rfl⟩
        have hix : ixN (ts.map D.str).length at_ = some at_.toNat := by
          have := tat (by simpa using hway)
          unfold ixN
          rw [if_pos y0, if_pos (by rw [List.length_map]; exact this)]
        row_walk with [hix]
        refine ⟨ts.set at_.toNat w, a5, b5, ?_, by rw [List.length_set]; exact t1, by rw [List.length_set]; exact t10, g5, ?_⟩
        · intro v hv
          rcases List.mem_or_eq_of_mem_set hv with hv | rfl
          · exact hts v hv
          · exact ⟨w1, w2, by omega⟩
        · simp only [encW, List.map_set]
      · exact ⟨ts, a4, b4, hts, t1, t10, g4, rfl⟩
    rintro _ ⟨rs, a5, b5, hrs, r1, r10, g5, rfl⟩
    walk_at "EI"
    refine Wp.mono (Q := fun x => ∃ (us : List (List Nat)) (a b : Int), (∀ v ∈ us, Mk v) ∧ 1 ≤ us.length ∧ us.length ≤ 10 ∧ Good a b m ∧ x = .nx [.ow true (dr a b m), .sh (encW ws), .sh (encW P), .sh (.int way), .ow false (encW us), s5, .sh (.int at_)]) ?_ ?_
    · walk_at "EL"
      split
      · refine (makers_ok g5).mono ?_
        rintro _ ⟨qs, a6, b6, hqs, g6, rfl⟩
        walk_at "EL"
        exact ⟨qs, a6, b6, hqs.all, hqs.one, by have := hqs.most; omega, g6, rfl⟩
      · exact ⟨rs, a5, b5, hrs, r1, r10, g5, rfl⟩
    rintro _ ⟨qs, a6, b6, hqs, q1, q10, g6, rfl⟩
    have hcut : cutD (qs.map D.str) none (some 8) = (qs.take 8).map D.str := by rw [cut_to (by decide), List.map_take]; rfl
    wide_line with [hcut]
    exact ⟨qs.take 8, a6, b6, ⟨by rw [List.length_take]; omega, by rw [List.length_take]; omega, fun v hv => hqs v (List.mem_of_mem_take hv)⟩, g6, rfl⟩
  · obtain ⟨P, Q, vs, a, b, s5, hPQ, hQ, hvs, hvl, g, rfl, f5⟩ := hI
    cases Q with
    | nil => cases hQ
    | cons q Q =>
      cases hQ
      have hq := hl.all q (by rw [← hPQ]; exact List.mem_append_right _ List.mem_cons_self)
      have hPl : P.length ≤ 8 := by
        have := congrArg List.length hPQ
        rw [List.length_append] at this
        omega
      refine ⟨_, if_pos f5, ?_⟩
      wide_line with [List.length_map]
      refine (draw_ok g (n := (vs.length : Int) + 1) (by omega) (by omega)).mono ?_
      rintro _ ⟨i, a2, b2, y0, y1, g2, rfl⟩
      have hins : insertM (encW vs) [.int i, .str q] = some (encW (vs.take i.toNat ++ [q] ++ vs.drop i.toNat), .non) := by
        show (if 0 ≤ i ∧ i < 1000000 ∧ (vs.map D.str).length < 1000000 then some (D.lst ((vs.map D.str).take i.toNat ++ [.str q] ++ (vs.map D.str).drop i.toNat), D.non) else none) = _
        rw [if_pos ⟨y0, by omega, by rw [List.length_map]; omega⟩]
        unfold encW
        rw [List.map_append, List.map_append, List.map_take, List.map_drop]
        rfl
      wide_line with [hins]
      refine ⟨P ++ [q], Q, _, a2, b2, .sh (.str q), by rw [List.append_assoc]; exact hPQ, rfl, ?_, ?_, g2, rfl, rfl⟩
      · intro v hv
        simp only [List.mem_append, List.mem_singleton] at hv
        rcases hv with (hv | rfl) | hv
        · exact hvs v (List.mem_of_mem_take hv)
        · exact hq
        · exact hvs v (List.mem_of_mem_drop hv)
      · simp only [List.length_append, List.length_take, List.length_drop, List.length_cons, List.length_nil]
        omega
end QL

end
section
set_option maxHeartbeats 1000000
namespace QL
open PySem PySem.Spec L2 QW
local macro_rules | `(tactic| walk_at "EL") => `(tactic| simp only [ws_raise, ws_try, ws_tryR, we_mtS, as_e, as_str, D.asI, wo_none, wo_some, we_slice, wp_exc, ws_seq, ws_if, ws_nil, ws_let, ws_set, ws_ret, ws_asg, ws_par, par_2, next_nx, ws_expr, ws_sub, ws_for, then_nx, then_rt, let_sh, let_ow, set_sh, set_ow, store_un, store_sh, store_ow, ret_sh, ret_ow, ret_al, back_sh, back_ow, own_ow, run_nx, run_rt, wb_val, bl_is, wb_and, wb_or, wb_not, ds_e, ds_l, ds_r, ds_lr, ds_u, ds_v, ds_U, ds_V, ds_uv, ds_uvUV, ds_mi, ds_n0, ds_n1, ds_co, ds_sl, ds_bl, ds_rr, ds_rrr, ds_ll, we_bin, we_chain, chain_b, we_un, we_if, we_and, we_or, we_not, we_name, slot_sh, slot_ow, we_share, share_sh, share_ow, we_c, we_tup, we_lst, we_callB, we_isT, we_call, we_mut, wl_nil, wl_cons, wp_bind, wp_ok, wp_opt, at_some, at_map, List.map_cons, List.map_nil, Ar.sl, List.length_cons, List.length_nil, List.cons_append, List.nil_append, List.getElem?_cons_zero, List.getElem?_cons_succ, List.set_cons_zero, List.set_cons_succ, Res.get, Res.own, owns, gets, argsOf, lentS, backS, Ar.res, outsOf, Option.map_some, Option.bind_some, Bool.true_eq_false, Bool.false_eq_true, if_true, if_false, g_lst, g_tup, g_clst, g_ctup, s_lst, p_add, p_sub, p_mul, p_mod, p_fdiv, p_pow, p_neg, p_lt, p_le, p_gt, p_ge, p_eqI, p_neI, p_mulT, p_mulL, p_addT, p_addL, p_slT, p_slL, p_start, p_start3, p_end, p_lenT, p_abs, p_ii_max, p_ii_min, Res.norm, ix_0, ix_1, ix_2, ix_3, n3_0, n3_1, n3_2, List.replicate, decide_eq_true_eq, and_true, true_and, List.nodup_nil, List.nodup_cons, List.not_mem_nil, not_false_eq_true, gSet, fr_un, fr_sh, fr_ow, eq_self, gTupD, gsCons, gsNil, loop_nx, loop_rt, wi_any, wk_l, wk_t, wk_c, wi_r1, wi_r2, asI1, asI2, rng_2, rng_4, isL, isDi, ap_M, tu_l, tu_t, ld_l, ld_t, len_l, len_t, len_c, len_ct, int_b, int_i, wb_yes, we_comp, isTn, forD_sh, ws_forD, we_compD, compD_sh, ko_k, ko_t, we_dget, we_dget2, is_dk, is_dt, wi_enu, as_L, Bool.not_true, Bool.not_false, Bool.and_self, Int.reduceAdd, Int.reduceSub, Int.reduceMul, Int.reduceNeg, Int.reducePow, Int.reduceToNat, Nat.reduceLT, Int.reduceLT, Int.reduceLE, Nat.reduceAdd, Nat.reduceSub, Nat.reduceLeDiff, Nat.reduceEqDiff])
local macro_rules | `(tactic| walk_at "EI") => `(tactic| simp only [ws_raise, ws_try, ws_tryR, we_mtS, as_e, as_str, D.asI, wo_none, wo_some, we_slice, wp_exc, ws_seq, ws_nil, ws_let, ws_set, ws_ret, ws_asg, ws_par, par_2, next_nx, ws_expr, ws_sub, ws_for, then_nx, then_rt, let_sh, let_ow, set_sh, set_ow, store_un, store_sh, store_ow, ret_sh, ret_ow, ret_al, back_sh, back_ow, own_ow, run_nx, run_rt, wb_val, bl_is, wb_and, wb_or, wb_not, ds_e, ds_l, ds_r, ds_lr, ds_u, ds_v, ds_U, ds_V, ds_uv, ds_uvUV, ds_mi, ds_n0, ds_n1, ds_co, ds_sl, ds_bl, ds_rr, ds_rrr, ds_ll, we_bin, we_chain, chain_b, we_un, we_if, we_and, we_or, we_not, we_name, slot_sh, slot_ow, we_share, share_sh, share_ow, we_c, we_tup, we_lst, we_callB, we_isT, we_call, we_mut, wl_nil, wl_cons, wp_bind, wp_ok, wp_opt, at_some, at_map, List.map_cons, List.map_nil, Ar.sl, List.length_cons, List.length_nil, List.cons_append, List.nil_append, List.getElem?_cons_zero, List.getElem?_cons_succ, List.set_cons_zero, List.set_cons_succ, Res.get, Res.own, owns, gets, argsOf, lentS, backS, Ar.res, outsOf, Option.map_some, Option.bind_some, Bool.true_eq_false, Bool.false_eq_true, if_true, if_false, g_lst, g_tup, g_clst, g_ctup, s_lst, p_add, p_sub, p_mul, p_mod, p_fdiv, p_pow, p_neg, p_lt, p_le, p_gt, p_ge, p_eqI, p_neI, p_mulT, p_mulL, p_addT, p_addL, p_slT, p_slL, p_start, p_start3, p_end, p_lenT, p_abs, p_ii_max, p_ii_min, Res.norm, ix_0, ix_1, ix_2, ix_3, n3_0, n3_1, n3_2, List.replicate, decide_eq_true_eq, and_true, true_and, List.nodup_nil, List.nodup_cons, List.not_mem_nil, not_false_eq_true, gSet, fr_un, fr_sh, fr_ow, eq_self, gTupD, gsCons, gsNil, loop_nx, loop_rt, wi_any, wk_l, wk_t, wk_c, wi_r1, wi_r2, asI1, asI2, rng_2, rng_4, isL, isDi, ap_M, tu_l, tu_t, ld_l, ld_t, len_l, len_t, len_c, len_ct, int_b, int_i, wb_yes, we_comp, isTn, forD_sh, ws_forD, we_compD, compD_sh, ko_k, ko_t, we_dget, we_dget2, is_dk, is_dt, wi_enu, as_L, Bool.not_true, Bool.not_false, Bool.and_self, Int.reduceAdd, Int.reduceSub, Int.reduceMul, Int.reduceNeg, Int.reducePow, Int.reduceToNat, Nat.reduceLT, Int.reduceLT, Int.reduceLE, Nat.reduceAdd, Nat.reduceSub, Nat.reduceLeDiff, Nat.reduceEqDiff])
local macro_rules | `(tactic| row_walk with [$xs,*]) => `(tactic| simp only [ws_raise, ws_try, ws_tryR, we_mtS, as_e, as_str, D.asI, wo_none, wo_some, we_slice, wp_exc, ws_seq, ws_if, ws_nil, ws_let, ws_set, ws_ret, ws_asg, ws_par, par_2, next_nx, ws_expr, ws_sub, ws_for, then_nx, then_rt, let_sh, let_ow, set_sh, set_ow, store_un, store_sh, store_ow, ret_sh, ret_ow, ret_al, back_sh, back_ow, own_ow, run_nx, run_rt, wb_val, bl_is, wb_and, wb_or, wb_not, ds_e, ds_l, ds_r, ds_lr, ds_u, ds_v, ds_U, ds_V, ds_uv, ds_uvUV, ds_mi, ds_n0, ds_n1, ds_co, ds_sl, ds_bl, ds_rr, ds_rrr, ds_ll, we_bin, we_chain, chain_b, we_un, we_if, we_and, we_or, we_not, we_name, slot_sh, slot_ow, we_share, share_sh, share_ow, we_c, we_tup, we_lst, we_callB, we_isT, we_call, we_mut, wl_nil, wl_cons, wp_bind, wp_ok, wp_opt, at_some, at_map, List.map_cons, List.map_nil, Ar.sl, List.length_cons, List.length_nil, List.cons_append, List.nil_append, List.getElem?_cons_zero, List.getElem?_cons_succ, List.set_cons_zero, List.set_cons_succ, Res.get, Res.own, owns, gets, argsOf, lentS, backS, Ar.res, outsOf, Option.map_some, Option.bind_some, Bool.true_eq_false, Bool.false_eq_true, if_true, if_false, g_lst, g_tup, g_clst, g_ctup, s_lst, p_add, p_sub, p_mul, p_mod, p_fdiv, p_pow, p_neg, p_lt, p_le, p_gt, p_ge, p_eqI, p_neI, p_mulT, p_mulL, p_addT, p_addL, p_slT, p_slL, p_start, p_start3, p_end, p_lenT, p_abs, p_ii_max, p_ii_min, Res.norm, ix_0, ix_1, ix_2, ix_3, n3_0, n3_1, n3_2, List.replicate, decide_eq_true_eq, and_true, true_and, List.nodup_nil, List.nodup_cons, List.not_mem_nil, not_false_eq_true, gSet, fr_un, fr_sh, fr_ow, eq_self, gTupD, gsCons, gsNil, loop_nx, loop_rt, wi_any, wk_l, wk_t, wk_c, wi_r1, wi_r2, asI1, asI2, rng_2, rng_4, isL, isDi, ap_M, tu_l, tu_t, ld_l, ld_t, len_l, len_t, len_c, len_ct, int_b, int_i, wb_yes, we_comp, isTn, forD_sh, ws_forD, we_compD, compD_sh, ko_k, ko_t, we_dget, we_dget2, is_dk, is_dt, wi_enu, as_L, Bool.not_true, Bool.not_false, Bool.and_self, Int.reduceAdd, Int.reduceSub, Int.reduceMul, Int.reduceNeg, Int.reducePow, Int.reduceToNat, Nat.reduceLT, Int.reduceLT, Int.reduceLE, Nat.reduceAdd, Nat.reduceSub, Nat.reduceLeDiff, Nat.reduceEqDiff, $[$xs:term],*])
local macro_rules | `(tactic| wide_line with [$xs,*]) => `(tactic| simp only [ws_raise, ws_try, ws_tryR, we_mtS, as_e, as_str, D.asI, wo_none, wo_some, we_slice, wp_exc, ws_seq, ws_nil, ws_let, ws_set, ws_ret, ws_asg, ws_par, par_2, next_nx, ws_expr, ws_sub, ws_for, then_nx, then_rt, let_sh, let_ow, set_sh, set_ow, store_un, store_sh, store_ow, ret_sh, ret_ow, ret_al, back_sh, back_ow, own_ow, run_nx, run_rt, wb_val, bl_is, wb_and, wb_or, wb_not, ds_e, ds_l, ds_r, ds_lr, ds_u, ds_v, ds_U, ds_V, ds_uv, ds_uvUV, ds_mi, ds_n0, ds_n1, ds_co, ds_sl, ds_bl, ds_rr, ds_rrr, ds_ll, we_bin, we_chain, chain_b, we_un, we_if, we_and, we_or, we_not, we_name, slot_sh, slot_ow, we_share, share_sh, share_ow, we_c, we_tup, we_lst, we_callB, we_isT, we_call, we_mut, wl_nil, wl_cons, wp_bind, wp_ok, wp_opt, at_some, at_map, List.map_cons, List.map_nil, Ar.sl, List.length_cons, List.length_nil, List.cons_append, List.nil_append, List.getElem?_cons_zero, List.getElem?_cons_succ, List.set_cons_zero, List.set_cons_succ, Res.get, Res.own, owns, gets, argsOf, lentS, backS, Ar.res, outsOf, Option.map_some, Option.bind_some, Bool.true_eq_false, Bool.false_eq_true, if_true, if_false, g_lst, g_tup, g_clst, g_ctup, s_lst, p_add, p_sub, p_mul, p_mod, p_fdiv, p_pow, p_neg, p_lt, p_le, p_gt, p_ge, p_eqI, p_neI, p_mulT, p_mulL, p_addT, p_addL, p_slT, p_slL, p_start, p_start3, p_end, p_lenT, p_abs, p_ii_max, p_ii_min, Res.norm, ix_0, ix_1, ix_2, ix_3, n3_0, n3_1, n3_2, List.replicate, decide_eq_true_eq, and_true, true_and, List.nodup_nil, List.nodup_cons, List.not_mem_nil, not_false_eq_true, gSet, fr_un, fr_sh, fr_ow, eq_self, gTupD, gsCons, gsNil, loop_nx, loop_rt, wi_any, wk_l, wk_t, wk_c, wi_r1, wi_r2, asI1, asI2, rng_2, rng_4, isL, isDi, ap_M, tu_l, tu_t, ld_l, ld_t, len_l, len_t, len_c, len_ct, int_b, int_i, wb_yes, we_comp, isTn, forD_sh, ws_forD, we_compD, compD_sh, ko_k, ko_t, we_dget, we_dget2, is_dk, is_dt, wi_enu, as_L, Bool.not_true, Bool.not_false, Bool.and_self, Int.reduceAdd, Int.reduceSub, Int.reduceMul, Int.reduceNeg, Int.reducePow, Int.reduceToNat, Nat.reduceLT, Int.reduceLT, Int.reduceLE, Nat.reduceAdd, Nat.reduceSub, Nat.reduceLeDiff, Nat.reduceEqDiff, $[$xs:term],*])
theorem ok_encM {ws : List (List Nat)} (n : Nat) : okD (n + 2) (encM ws) = true := by
  show okDs (n + 1) (ws.map fun w => dT (tabW w)) = true
  exact okDs_map fun w hw => rfl
theorem in_false (ns : List Nat) : memP (.bl false) (.lst (ns.map fun _ => D.bl true)) = some (.sh (.bl false)) := by
  rw [p_in rfl (okDs_map fun _ _ => rfl)]
  congr 3
  induction ns with
  | nil => rfl
  | cons n ns ih => rw [List.map_cons, List.any_cons, ih]; rfl
theorem can_ok {ws : List (List Nat)} {t : List Nat} (hw : ∀ w ∈ ws, Mk w) (hl : ws.length ≤ 8) (ht : LR t) (htl : t.length ≤ 1000) : Wp N0 (f_law_can [.sh (encW ws), .sh (.str t)]) fun p => p = (.sh (.bl (decide (Gen ws t))), [.sh (encW ws), .sh (.str t)]) := by
  have hne : ∀ w ∈ ws, w ≠ [] := fun w h => List.length_pos_iff.mp (hw w h).one
  unfold f_law_can c_law_can
  rw [wp_run]
  row_walk with [ne_nilA (fun w h => (hw w h).lr.asc)]
  by_cases h0 : ws = []
  · subst h0
    rw [if_neg (by simp)]
    have e : eqP (.str t) (.str []) = some (.sh (.bl (decide (Gen [] t)))) := by
      rw [eq_asc ht.asc Asc.nil]
      congr 3
      exact decide_eq_decide.mpr gen_nil.symm
    row_walk with [e]
  · rw [if_pos (by simp [h0])]
    refine (counts_ok (fun w hm => ⟨hne w hm, by have := (hw w hm).most; omega⟩) hl (by omega)).mono ?_
    rintro _ rfl
    row_walk with [last_F hne, no_non]
    have e : (!decide ((restT ws t).1 = none)) = decide (Gen ws t) := by
      rw [← decide_not]
      exact decide_eq_decide.mpr (made_iff hne)
    rw [e]
theorem law_needed_ok {ws : List (List Nat)} (h : Mks ws) : Wp N0 (f_law_needed [.sh (encW ws)]) fun p => p = (.ow (encN (needK ws ws.length)), [.sh (encW ws)]) := by
  have hasc : ∀ w ∈ ws, Asc w := fun w hw => (h.all w hw).lr.asc
  have h8 := h.most
  unfold f_law_needed c_law_needed
  rw [wp_run]
  wide_line with [List.length_map]
  refine ⟨by omega, ?_⟩
  refine wp_loop (fun ds ρ => ∃ (k : Nat) (s2 s3 : Sl), k ≤ ws.length ∧ ds = rng (k : Int) ws.length ∧ ρ = [.sh (encW ws), .ow false (encN (needK ws k)), s2, s3, .un] ∧ s2.free = true ∧ s3.free = true) (fun ρ hI => ?_) (fun d ds ρ hI => ?_) _ _ ⟨0, .un, .un, Nat.zero_le _, rfl, rfl, rfl, rfl⟩
  · obtain ⟨k, s2, s3, hk, hd, rfl, _⟩ := hI
    have : k = ws.length := by
      by_cases z : k < ws.length
      · rw [rng_cons (by omega)] at hd; cases hd
      · omega
    subst this
    walk_at "EI"
  · obtain ⟨k, s2, s3, hk, hd, rfl, f2, f3⟩ := hI
    have hlt : k < ws.length := by
      by_cases z : k < ws.length
      · exact z
      · rw [rng_end (by omega)] at hd; cases hd
    rw [rng_cons (by omega)] at hd
    cases hd
    obtain ⟨w, hw⟩ : ∃ w, ws[k]? = some w := ⟨ws[k], List.getElem?_eq_getElem hlt⟩
    have hwm := List.mem_of_getElem? hw
    have mw := h.all w hwm
    have mw2 := mw.most
    have eg : ws.getD k [] = w := by rw [List.getD_eq_getElem?_getD, hw]; rfl
    refine ⟨_, if_pos f2, ?_⟩
    wide_line with [store_gen f3, at_words hw, List.length_map]
    refine ⟨⟨rfl, by omega⟩, ?_⟩
    refine (lc_filt (f := D.str) (g := D.str) (p := fun v => decide (v ≠ w)) rfl ws fun v hv => ?_).monoE ?_
    · wide_line with [at_words hw, ne_asc (hasc v hv) mw.lr.asc, decide_not]
      exact fun _ => trivial
    rintro _ rfl
    have hO : ∀ v ∈ ws.filter (fun v => decide (v ≠ w)), Mk v := fun v hv => h.all v (List.mem_filter.mp hv).1
    have hcut : cutD (ws.map D.str) none (some (k : Int)) = (ws.take k).map D.str := by rw [cut_to (by omega), Int.toNat_natCast, List.map_take]
    have hnin : nmP (.str w) (.lst ((ws.take k).map D.str)) = some (.sh (.bl (!decide (w ∈ ws.take k)))) := nin_strs mw.lr.asc fun v hv => hasc v (List.mem_of_mem_take hv)
    have hstep := needK_succ ws k
    rw [eg] at hstep
    row_walk with [store_gen f3, at_words hw, hcut, hnin]
    by_cases hin : w ∈ ws.take k
    · rw [decide_eq_true hin]
      walk_at "EL"
      refine ⟨k + 1, .sh (.int k), .sh (.lst ((ws.filter fun v => decide (v ≠ w)).map D.str)), by omega, rfl, ?_, rfl, rfl⟩
      rw [hstep, if_neg fun z => z.1 hin, List.append_nil]
    · rw [decide_eq_false hin]
      row_walk with [at_words hw]
      refine (can_ok hO (Nat.le_trans (List.length_filter_le _ _) h8) mw.lr (by omega)).mono ?_
      rintro _ rfl
      have hkl : (needK ws k).length ≤ 8 := by
        unfold needK
        refine Nat.le_trans (List.length_filter_le _ _) ?_
        rw [List.length_range]; omega
      walk_at "EL"
      by_cases hg : Gen (ws.filter fun v => decide (v ≠ w)) w
      · rw [decide_eq_true hg]
        walk_at "EL"
        refine ⟨k + 1, .sh (.int k), .sh (.lst ((ws.filter fun v => decide (v ≠ w)).map D.str)), by omega, rfl, ?_, rfl, rfl⟩
        rw [hstep, if_neg fun z => z.2 hg, List.append_nil]
      · rw [decide_eq_false hg]
        row_walk with [List.length_map]
        refine ⟨by omega, k + 1, .sh (.int k), .sh (.lst ((ws.filter fun v => decide (v ≠ w)).map D.str)), by omega, rfl, ?_, rfl, rfl⟩
        rw [hstep, if_pos ⟨hin, hg⟩, encN_snoc]
abbrev env23 (ns : List Int) (s1 s2 s3 s4 s5 s6 s7 s8 s9 s10 s11 s12 s13 : Sl) : EnvQ := [.sh (.clst (ns.map D.int)), s1, s2, s3, s4, s5, s6, s7, s8, s9, s10, s11, s12, s13, .un, .un]
theorem law_wp (ns : List Int) (h : ns.length ≤ 63) : Wp N0 (flaw [.sh (.clst (ns.map D.int))]) fun p => p.1 = .sh (.bl true) := by
  unfold flaw claw
  rw [wp_run]
  row_walk with [List.length_map]
  refine ⟨by omega, ?_⟩
  refine wp_loop (fun ds ρ => (∀ d ∈ ds, ∃ k : Int, d = .int k ∧ 0 ≤ k ∧ k < 100) ∧ ∃ s1 s2 s3 s4 s5 s6 s7 s8 s9 s10 s11 s12 s13 : Sl, ρ = env23 ns s1 s2 s3 s4 s5 s6 s7 s8 s9 s10 s11 s12 s13 ∧ (s1.free = true ∧ s2.free = true ∧ s3.free = true ∧ s4.free = true ∧ s5.free = true ∧ s6.free = true ∧ s7.free = true ∧ s8.free = true ∧ s9.free = true ∧ s10.free = true ∧ s11.free = true ∧ s12.free = true ∧ s13.free = true)) (fun ρ hI => ?_) (fun d ds ρ hI => ?_) _ _ ?_
  · obtain ⟨_, s1, s2, s3, s4, s5, s6, s7, s8, s9, s10, s11, s12, s13, rfl, hf⟩ := hI
    walk_at "EL"
  · obtain ⟨hdk, s1, s2, s3, s4, s5, s6, s7, s8, s9, s10, s11, s12, s13, rfl, f1, f2, f3, f4, f5, f6, f7, f8, f9, f10, f11, f12, f13⟩ := hI
    obtain ⟨k, rfl, k0, k1⟩ := hdk d List.mem_cons_self
    refine ⟨env23 ns (.sh (.int k)) s2 s3 s4 s5 s6 s7 s8 s9 s10 s11 s12 s13, if_pos f1, ?_⟩
    walk_at "EI"
    refine (draws_ok (ns := ns) (k := k) k0 k1).mono ?_
    rintro _ ⟨a, b, m, g, rfl⟩
    wide_line with [store_gen f2, store_gen f3, store_gen f4, store_gen f5, store_gen f6, store_gen f7, store_gen f8, store_gen f9, store_gen f10, store_gen f11, store_gen f12, store_gen f13]
    refine (makers_ok g).mono ?_
    rintro _ ⟨ws, a1, b1, hws, g1, rfl⟩
    have h8 := hws.most; have h1 := hws.one
    wide_line with [store_gen f2, store_gen f3, store_gen f4, store_gen f5, store_gen f6, store_gen f7, store_gen f8, store_gen f9, store_gen f10, store_gen f11, store_gen f12, store_gen f13, List.length_map]
    refine ⟨⟨rfl, by omega⟩, ?_⟩
    refine (lc_map (f := D.str) (g := fun w => dT (tabW w)) rfl ws fun w hw => ?_).monoE ?_
    · walk_at "EI"
      refine (of_letters_lr (hws.all w hw).lr (by have := (hws.all w hw).most; omega)).mono ?_
      rintro _ rfl
      walk_at "EI"
    rintro _ rfl
    wide_line with [store_gen f2, store_gen f3, store_gen f4, store_gen f5, store_gen f6, store_gen f7, store_gen f8, store_gen f9, store_gen f10, store_gen f11, store_gen f12, store_gen f13]
    refine (needed_ok hws).mono ?_
    rintro _ rfl
    wide_line with [store_gen f2, store_gen f3, store_gen f4, store_gen f5, store_gen f6, store_gen f7, store_gen f8, store_gen f9, store_gen f10, store_gen f11, store_gen f12, store_gen f13]
    refine (law_needed_ok hws).mono ?_
    rintro _ rfl
    wide_line with [store_gen f2, store_gen f3, store_gen f4, store_gen f5, store_gen f6, store_gen f7, store_gen f8, store_gen f9, store_gen f10, store_gen f11, store_gen f12, store_gen f13]
    -- the needed ones
    have hK : ∀ j ∈ needK ws ws.length, j < ws.length := fun j hj => (needK_mem hj).1
    have hKl : (needK ws ws.length).length ≤ 8 := by
      unfold needK
      refine Nat.le_trans (List.length_filter_le _ _) ?_
      rw [List.length_range]; omega
    have hneed := fun {j : Nat} (hj : j ∈ needK ws ws.length) => needK_mem hj
    have hall := fun {w : List Nat} (hw : Need ws w) => needK_all hw
    have hnd : ∀ {i j : Nat}, i ∈ needK ws ws.length → j ∈ needK ws ws.length → i < j → ws.getD i [] ≠ ws.getD j [] := fun hi hj => needK_nodup hi hj
    have hsort : (needK ws ws.length).Pairwise (· < ·) := by
      unfold needK
      exact List.Pairwise.filter _ (List.pairwise_lt_range)
    have hneeded := needed_ok hws
    generalize needK ws ws.length = js at hK hKl hneed hall hnd hsort hneeded ⊢
    have hneN : neP (encN js) (encN js) = some (.sh (.bl false)) := ne_same (ok_encN _ 59)
    have hneM : neP (encM ws) (encM ws) = some (.sh (.bl false)) := ne_same (ok_encM 58)
    refine Wp.mono (Q := fun x => x = .nx (env23 ns (.sh (.int k)) (.ow false (dr a1 b1 m)) (.sh (encW ws)) (.sh (encM ws)) (.sh (encM ws)) (.ow false (encN js)) (.sh (encN js)) s8 s9 s10 s11 s12 s13)) ?_ ?_
    · row_walk with [hneN, we_compO, cO_ow, List.length_map]
      refine ⟨⟨rfl, by omega⟩, ?_⟩
      refine (lc_mapO (s := 6) (f := fun n : Nat => D.int n) (g := fun _ => D.bl true) rfl rfl (by decide) js fun x hx => ?_).monoE ?_
      · walk_at "EL"
        refine whole_int.mono ?_
        rintro _ rfl
        walk_at "EL"
      rintro _ rfl
      row_walk with [in_false, hneM]
    rintro _ rfl
    have hne : ∀ w ∈ ws, w ≠ [] := fun w hw => List.length_pos_iff.mp (hws.all w hw).one
    have hL : Mks (js.map fun j => ws.getD j []) := by
      refine ⟨?_, by rw [List.length_map]; exact hKl, fun w hw => ?_⟩
      · cases e : js.map fun j => ws.getD j [] with
        | cons x r => simp
        | nil =>
          have hw0 : ws.getD 0 [] ∈ ws := by
            rw [List.getD_eq_getElem?_getD, List.getElem?_eq_getElem (show 0 < ws.length by omega)]
            exact List.getElem_mem _
          have := need_all hne (ns := js.map fun j => ws.getD j []) (fun w hw => hall hw) _ _ (Nat.le_refl _) hw0
          rw [e] at this
          exact absurd (gen_nil.mp this) (hne _ hw0)
      · obtain ⟨j, hj, rfl⟩ := List.mem_map.mp hw
        exact hws.all _ (hneed hj).2.1.1
    wide_line with [store_gen f2, store_gen f3, store_gen f4, store_gen f5, store_gen f6, store_gen f7, store_gen f8, store_gen f9, store_gen f10, store_gen f11, store_gen f12, store_gen f13, List.length_map]
    refine ⟨⟨rfl, by omega⟩, ?_⟩
    refine (lc_map (f := fun n : Nat => D.int n) (g := fun j => D.str (ws.getD j [])) rfl js fun j hj => ?_).monoE ?_
    · have : atI (ws.map D.str) (j : Int) = some (.str (ws.getD j [])) := at_words (by rw [List.getElem?_eq_getElem (hK j hj), List.getD_eq_getElem?_getD, List.getElem?_eq_getElem (hK j hj)]; rfl)
      wide_line with [this]
    rintro _ rfl
    wide_line with [store_gen f2, store_gen f3, store_gen f4, store_gen f5, store_gen f6, store_gen f7, store_gen f8, store_gen f9, store_gen f10, store_gen f11, store_gen f12, store_gen f13, List.length_map]
    refine ⟨⟨rfl, by omega⟩, ?_⟩
    refine (lc_map (f := fun n : Nat => D.int n) (g := fun j => dT (tabW (ws.getD j []))) rfl js fun j hj => ?_).monoE ?_
    · have : atI (ws.map fun w => dT (tabW w)) (j : Int) = some (dT (tabW (ws.getD j []))) := ati_get (by rw [List.getElem?_map, List.getElem?_eq_getElem (hK j hj), List.getD_eq_getElem?_getD, List.getElem?_eq_getElem (hK j hj)]; rfl)
      wide_line with [this]
    rintro _ rfl
    have e1 : (js.map fun j => D.str (ws.getD j [])) = (js.map fun j => ws.getD j []).map D.str := by rw [List.map_map]; rfl
    have e2 : (js.map fun j => dT (tabW (ws.getD j []))) = (js.map fun j => ws.getD j []).map fun w => dT (tabW w) := by rw [List.map_map]; rfl
    rw [e1, e2]
    have hgenL : ∀ w ∈ ws, Gen (js.map fun j => ws.getD j []) w := fun w hw => need_all hne (fun w hw => hall hw) _ _ (Nat.le_refl _) hw
    have hLsub : ∀ w ∈ js.map fun j => ws.getD j [], w ∈ ws ∧ Need ws w := fun w hw => by
      obtain ⟨j, hj, rfl⟩ := List.mem_map.mp hw
      exact ⟨(hneed hj).2.1.1, (hneed hj).2.1⟩
    have htail : ∀ w r, (js.map fun j => ws.getD j []) = w :: r → Need ws w ∧ ∀ v ∈ r, v ∈ ws ∧ v ≠ w := by
      intro w r e
      cases hjs : js with
      | nil => rw [hjs] at e; cases e
      | cons j r' =>
        rw [hjs, List.map_cons] at e
        cases e
        have hj : j ∈ js := by rw [hjs]; exact List.mem_cons_self
        refine ⟨(hneed hj).2.1, fun v hv => ?_⟩
        obtain ⟨i, hi, rfl⟩ := List.mem_map.mp hv
        have hi' : i ∈ js := by rw [hjs]; exact List.mem_cons_of_mem _ hi
        rw [hjs] at hsort
        exact ⟨(hneed hi').2.1.1, fun z => hnd hj hi' (List.rel_of_pairwise_cons hsort hi) z.symm⟩
    generalize (js.map fun j => ws.getD j []) = ls at hL hgenL hLsub htail ⊢
    have l8 := hL.most; have l1 := hL.one
    wide_line with [store_gen f2, store_gen f3, store_gen f4, store_gen f5, store_gen f6, store_gen f7, store_gen f8, store_gen f9, store_gen f10, store_gen f11, store_gen f12, store_gen f13]
    have nb : ∀ b : Bool, noBP (.bl b) (.bl b) = some (.sh (.bl false)) := fun b => by cases b <;> rfl
    refine Wp.mono (Q := fun x => x = .nx (env23 ns (.sh (.int k)) (.ow false (dr a1 b1 m)) (.sh (encW ws)) (.sh (encM ws)) (.sh (encM ws)) (.ow false (encN js)) (.sh (encN js)) (.sh (encW ls)) (.sh (encM ls)) s10 s11 s12 s13)) ?_ ?_
    · walk_at "EL"
      refine (same_ok hws hL).mono ?_
      rintro _ rfl
      rw [decide_eq_true (show (∀ w ∈ ws, Gen ls w) ∧ ∀ v ∈ ls, Gen ws v from ⟨hgenL, fun v hv => .one (hLsub v hv).1⟩)]
      row_walk with [nb]
    rintro _ rfl
    wide_line with [store_gen f2, store_gen f3, store_gen f4, store_gen f5, store_gen f6, store_gen f7, store_gen f8, store_gen f9, store_gen f10, store_gen f11, store_gen f12, store_gen f13]
    refine Wp.mono (Q := fun x => x = .nx (env23 ns (.sh (.int k)) (.ow false (dr a1 b1 m)) (.sh (encW ws)) (.sh (encM ws)) (.sh (encM ws)) (.ow false (encN js)) (.sh (encN js)) (.sh (encW ls)) (.sh (encM ls)) s10 s11 s12 s13)) ?_ ?_
    · have hdrop : 1 < ls.length → Mks (ls.drop 1) ∧ ¬ ∀ v ∈ ws, Gen (ls.drop 1) v := fun hgt => by
        obtain ⟨w, r, rfl⟩ : ∃ w r, ls = w :: r := by
          cases ls with
          | nil => simp at l1
          | cons w r => exact ⟨w, r, rfl⟩
        rw [List.length_cons] at hgt l8
        obtain ⟨n1, n2⟩ := htail w r rfl
        exact ⟨⟨by show 1 ≤ r.length; omega, by show r.length ≤ 8; omega, fun v hv => hL.all v (List.mem_cons_of_mem _ hv)⟩, fun z => need_less n1 n2 (z w n1.1)⟩
      have hcut : cutD (ls.map fun w => dT (tabW w)) (some 1) none = (ls.drop 1).map fun w => dT (tabW w) := by rw [cut_from (by decide), List.map_drop]; rfl
      row_walk with [List.length_map]
      split
      · rename_i hgt
        obtain ⟨hr, hno⟩ := hdrop (by omega)
        row_walk with [hcut]
        refine (same_ok hr hws).mono ?_
        rintro _ rfl
        rw [decide_eq_false (show ¬ ((∀ v ∈ ls.drop 1, Gen ws v) ∧ ∀ v ∈ ws, Gen (ls.drop 1) v) from fun z => hno z.2)]
        row_walk with [nb]
      · trivial
    rintro _ rfl
    rw [then_nx, ws_seq]
    refine Wp.mono (Q := fun x => ∃ vs a b, Mks vs ∧ Good a b m ∧ x = .nx (env23 ns (.sh (.int k)) (.ow false (dr a b m)) (.sh (encW ws)) (.sh (encM ws)) (.sh (encM ws)) (.ow false (encN js)) (.sh (encN js)) (.sh (encW ls)) (.sh (encM ls)) (.sh (encW vs)) s11 s12 s13)) ?_ ?_
    · wide_line with [store_gen f2, store_gen f3, store_gen f4, store_gen f5, store_gen f6, store_gen f7, store_gen f8, store_gen f9, store_gen f10, store_gen f11, store_gen f12, store_gen f13]
      refine (other_ok g1 hws hL).mono ?_
      rintro _ ⟨vs, a2, b2, hvs, g2, rfl⟩
      wide_line with [store_gen f2, store_gen f3, store_gen f4, store_gen f5, store_gen f6, store_gen f7, store_gen f8, store_gen f9, store_gen f10, store_gen f11, store_gen f12, store_gen f13]
      exact ⟨vs, a2, b2, hvs, g2, rfl⟩
    rintro _ ⟨vs, a2, b2, hvs, g2, rfl⟩
    have v8 := hvs.most
    have e3 : eqP (.lst ((ws.filter fun v => decide (¬ Gen vs v)).map D.str)) (.lst []) = some (.sh (.bl (decide (∀ w ∈ ws, Gen vs w)))) := by
      refine (eq_nilA fun w hw => (hws.all w (List.mem_filter.mp hw).1).lr.asc).trans ?_
      congr 3
      refine decide_eq_decide.mpr ?_
      rw [List.filter_eq_nil_iff]
      constructor
      · intro z w hw
        exact Classical.byContradiction fun n => z w hw (decide_eq_true n)
      · intro z w hw q
        exact of_decide_eq_true q (z w hw)
    have e4 : eqP (.lst ((vs.filter fun v => decide (¬ Gen ws v)).map D.str)) (.lst []) = some (.sh (.bl (decide (∀ w ∈ vs, Gen ws w)))) := by
      refine (eq_nilA fun w hw => (hvs.all w (List.mem_filter.mp hw).1).lr.asc).trans ?_
      congr 3
      refine decide_eq_decide.mpr ?_
      rw [List.filter_eq_nil_iff]
      constructor
      · intro z w hw
        exact Classical.byContradiction fun n => z w hw (decide_eq_true n)
      · intro z w hw q
        exact of_decide_eq_true q (z w hw)
    rw [then_nx, ws_seq]
    refine Wp.mono (Q := fun x => x = .nx (env23 ns (.sh (.int k)) (.ow false (dr a2 b2 m)) (.sh (encW ws)) (.sh (encM ws)) (.sh (encM ws)) (.ow false (encN js)) (.sh (encN js)) (.sh (encW ls)) (.sh (encM ls)) (.sh (encW vs)) (.sh (.bl (decide (∀ w ∈ ws, Gen vs w)))) s12 s13)) ?_ ?_
    · wide_line with [store_gen f2, store_gen f3, store_gen f4, store_gen f5, store_gen f6, store_gen f7, store_gen f8, store_gen f9, store_gen f10, store_gen f11, store_gen f12, store_gen f13, List.length_map]
      refine ⟨⟨rfl, by omega⟩, ?_⟩
      refine (lc_filt (f := D.str) (g := D.str) (p := fun w => decide (¬ Gen vs w)) rfl ws fun w hw => ?_).monoE ?_
      · walk_at "EI"
        refine (can_ok hvs.all v8 (hws.all w hw).lr (by have := (hws.all w hw).most; omega)).mono ?_
        rintro _ rfl
        wide_line with [decide_not]
        exact fun _ => trivial
      rintro _ rfl
      wide_line with [e3, store_gen f2, store_gen f3, store_gen f4, store_gen f5, store_gen f6, store_gen f7, store_gen f8, store_gen f9, store_gen f10, store_gen f11, store_gen f12, store_gen f13]
    rintro _ rfl
    rw [then_nx, ws_seq]
    refine Wp.mono (Q := fun x => x = .nx (env23 ns (.sh (.int k)) (.ow false (dr a2 b2 m)) (.sh (encW ws)) (.sh (encM ws)) (.sh (encM ws)) (.ow false (encN js)) (.sh (encN js)) (.sh (encW ls)) (.sh (encM ls)) (.sh (encW vs)) (.sh (.bl (decide ((∀ w ∈ ws, Gen vs w) ∧ ∀ v ∈ vs, Gen ws v)))) s12 s13)) ?_ ?_
    · wide_line with [store_gen f2, store_gen f3, store_gen f4, store_gen f5, store_gen f6, store_gen f7, store_gen f8, store_gen f9, store_gen f10, store_gen f11, store_gen f12, store_gen f13, List.length_map]
      by_cases hA : ∀ w ∈ ws, Gen vs w
      · rw [if_pos hA]
        refine ⟨⟨rfl, by omega⟩, ?_⟩
        refine (lc_filt (f := D.str) (g := D.str) (p := fun w => decide (¬ Gen ws w)) rfl vs fun w hw => ?_).monoE ?_
        · walk_at "EI"
          refine (can_ok hws.all h8 (hvs.all w hw).lr (by have := (hvs.all w hw).most; omega)).mono ?_
          rintro _ rfl
          wide_line with [decide_not]
          exact fun _ => trivial
        rintro _ rfl
        have e5 : (decide (∀ v ∈ vs, Gen ws v)) = decide ((∀ w ∈ ws, Gen vs w) ∧ ∀ v ∈ vs, Gen ws v) := decide_eq_decide.mpr ⟨fun z => ⟨hA, z⟩, fun z => z.2⟩
        wide_line with [e4, store_gen f2, store_gen f3, store_gen f4, store_gen f5, store_gen f6, store_gen f7, store_gen f8, store_gen f9, store_gen f10, store_gen f11, store_gen f12, store_gen f13]
        rw [e5]
      · rw [if_neg hA, decide_eq_false fun z => hA z.1]
    rintro _ rfl
    wide_line with [store_gen f2, store_gen f3, store_gen f4, store_gen f5, store_gen f6, store_gen f7, store_gen f8, store_gen f9, store_gen f10, store_gen f11, store_gen f12, store_gen f13, List.length_map]
    refine ⟨⟨rfl, by omega⟩, ?_⟩
    refine (lc_map (f := D.str) (g := fun w => dT (tabW w)) rfl vs fun w hw => ?_).monoE ?_
    · walk_at "EI"
      refine (of_letters_lr (hvs.all w hw).lr (by have := (hvs.all w hw).most; omega)).mono ?_
      rintro _ rfl
      walk_at "EI"
    rintro _ rfl
    have hsw : (decide ((∀ v ∈ vs, Gen ws v) ∧ ∀ w ∈ ws, Gen vs w)) = decide ((∀ w ∈ ws, Gen vs w) ∧ ∀ v ∈ vs, Gen ws v) := decide_eq_decide.mpr And.comm
    have hsame1 := same_ok hws hvs
    have hsame2 := same_ok hvs hws
    rw [hsw] at hsame2
    generalize decide ((∀ w ∈ ws, Gen vs w) ∧ ∀ v ∈ vs, Gen ws v) = bb at hsame1 hsame2 ⊢
    wide_line with [store_gen f2, store_gen f3, store_gen f4, store_gen f5, store_gen f6, store_gen f7, store_gen f8, store_gen f9, store_gen f10, store_gen f11, store_gen f12, store_gen f13]
    refine hsame1.mono ?_
    rintro _ rfl
    wide_line with [store_gen f2, store_gen f3, store_gen f4, store_gen f5, store_gen f6, store_gen f7, store_gen f8, store_gen f9, store_gen f10, store_gen f11, store_gen f12, store_gen f13]
    refine hsame2.mono ?_
    rintro _ rfl
    have hbb : neP (.bl bb) (.bl bb) = some (.sh (.bl false)) := ne_same rfl
    wide_line with [store_gen f2, store_gen f3, store_gen f4, store_gen f5, store_gen f6, store_gen f7, store_gen f8, store_gen f9, store_gen f10, store_gen f11, store_gen f12, store_gen f13]
    refine wp_loop (fun es ρ => (∀ e ∈ es, e = .bl bb) ∧ ∃ s13 : Sl, ρ = env23 ns (.sh (.int k)) (.ow false (dr a2 b2 m)) (.sh (encW ws)) (.sh (encM ws)) (.sh (encM ws)) (.ow false (encN js)) (.sh (encN js)) (.sh (encW ls)) (.sh (encM ls)) (.sh (encW vs)) (.sh (.bl bb)) (.sh (encM vs)) s13 ∧ s13.free = true) (fun ρ hI => ?_) (fun e es ρ hI => ?_) _ _ ⟨?_, s13, rfl, f13⟩
    · obtain ⟨_, s13, rfl, f13⟩ := hI
      row_walk with [store_gen f2, store_gen f3, store_gen f4, store_gen f5, store_gen f6, store_gen f7, store_gen f8, store_gen f9, store_gen f10, store_gen f11, store_gen f12, store_gen f13, List.length_map]
      refine ⟨by omega, ?_⟩
      refine hneeded.mono ?_
      rintro _ rfl
      row_walk with [hneN]
      exact ⟨fun d hd => hdk d (List.mem_cons_of_mem _ hd), _, _, _, _, _, _, _, _, _, _, _, _, _, rfl, rfl, rfl, rfl, rfl, rfl, rfl, rfl, rfl, rfl, rfl, rfl, rfl, f13⟩
    · obtain ⟨he, s13, rfl, f13⟩ := hI
      obtain rfl := he e List.mem_cons_self
      refine ⟨_, if_pos f13, ?_⟩
      row_walk with [hbb]
      exact ⟨fun e h => he e (List.mem_cons_of_mem _ h), _, rfl, rfl⟩
    · intro e he
      simp only [List.mem_cons, List.not_mem_nil, or_false] at he
      rcases he with rfl | rfl <;> rfl
  · refine ⟨fun d hd => ?_, _, _, _, _, _, _, _, _, _, _, _, _, _, rfl, rfl, rfl, rfl, rfl, rfl, rfl, rfl, rfl, rfl, rfl, rfl, rfl, rfl⟩
    unfold rng at hd
    obtain ⟨i, hi, rfl⟩ := List.mem_map.mp hd
    have hi := List.mem_range.mp hi
    exact ⟨_, rfl, by omega, by omega⟩
theorem law_ok (ns : List Int) (h : ns.length ≤ 63) : ∃ outs, flaw [.sh (.clst (ns.map D.int))] = .ok (.sh (.bl true), outs) := by
  obtain ⟨⟨r, outs⟩, e, rfl⟩ := (law_wp ns h).eq
  exact ⟨outs, e⟩
end QL

end
section
namespace QL
open PySem PySem.Spec PyProof.Rows L2 L2H QW
theorem all_mk {P : Program} {w : World} {K : PySem.W.Frag} {h : Heap} {mg : Str → Option Value} {fa r_law_draws r_law_draw r_law_piece r_law_makers rworth ris_plain rlook_at_plain rword_of rmaker_word_rows rwords_of rrest_rows rrow_for rneeded r_law_counts r_law_can r_law_needed r_law_other r_law_times r_law_made r_law_of_letters rsame r_law_whole rlaw : Addr} {oc_law_draws kV_law_draws dc_law_draws pm_law_draws cd_law_draws ct_law_draws oc_law_draw kV_law_draw dc_law_draw pm_law_draw cd_law_draw ct_law_draw oc_law_piece kV_law_piece dc_law_piece pm_law_piece cd_law_piece ct_law_piece oc_law_makers kV_law_makers dc_law_makers pm_law_makers cd_law_makers ct_law_makers ocworth kVworth dcworth pmworth cdworth ctworth ocis_plain kVis_plain dcis_plain pmis_plain cdis_plain ctis_plain oclook_at_plain kVlook_at_plain dclook_at_plain pmlook_at_plain cdlook_at_plain ctlook_at_plain ocword_of kVword_of dcword_of pmword_of cdword_of ctword_of ocmaker_word_rows kVmaker_word_rows dcmaker_word_rows pmmaker_word_rows cdmaker_word_rows ctmaker_word_rows ocwords_of kVwords_of dcwords_of pmwords_of cdwords_of ctwords_of ocrest_rows kVrest_rows dcrest_rows pmrest_rows cdrest_rows ctrest_rows ocrow_for kVrow_for dcrow_for pmrow_for cdrow_for ctrow_for ocneeded kVneeded dcneeded pmneeded cdneeded ctneeded oc_law_counts kV_law_counts dc_law_counts pm_law_counts cd_law_counts ct_law_counts oc_law_can kV_law_can dc_law_can pm_law_can cd_law_can ct_law_can oc_law_needed kV_law_needed dc_law_needed pm_law_needed cd_law_needed ct_law_needed oc_law_other kV_law_other dc_law_other pm_law_other cd_law_other ct_law_other oc_law_times kV_law_times dc_law_times pm_law_times cd_law_times ct_law_times oc_law_made kV_law_made dc_law_made pm_law_made cd_law_made ct_law_made oc_law_of_letters kV_law_of_letters dc_law_of_letters pm_law_of_letters cd_law_of_letters ct_law_of_letters ocsame kVsame dcsame pmsame cdsame ctsame oc_law_whole kV_law_whole dc_law_whole pm_law_whole cd_law_whole ct_law_whole oclaw kVlaw dclaw pmlaw cdlaw ctlaw : Value} {od_law_draws an_law_draws od_law_draw an_law_draw od_law_piece an_law_piece od_law_makers an_law_makers odworth anworth odis_plain anis_plain odlook_at_plain anlook_at_plain odword_of anword_of odmaker_word_rows anmaker_word_rows odwords_of anwords_of odrest_rows anrest_rows odrow_for anrow_for odneeded anneeded od_law_counts an_law_counts od_law_can an_law_can od_law_needed an_law_needed od_law_other an_law_other od_law_times an_law_times od_law_made an_law_made od_law_of_letters an_law_of_letters odsame ansame od_law_whole an_law_whole odlaw anlaw : Option Addr} {sl_law_draws sl_law_draw sl_law_piece sl_law_makers slworth slis_plain sllook_at_plain slword_of slmaker_word_rows slwords_of slrest_rows slrow_for slneeded sl_law_counts sl_law_can sl_law_needed sl_law_other sl_law_times sl_law_made sl_law_of_letters slsame sl_law_whole sllaw : Array (Option Value)} {tk_MOST_LETTERS : Tok} {tk_MOST_MAKERS : Tok} {tk_MOST_OF_MAKER : Tok} {r_ONE : Addr} {od_ONE : Option Addr} {n_ONE : Nat} {sl_ONE : Array (Option Value)} {tkONE0 tkONE1 tkONE2 tkONE3 : Tok} {C_NoMakers C_NoPlain C_TooLong : Addr} (X : K.In h) (G : h.Ns mainGlobals mg) (hfa : mg "law" = some (.ref fa))
    (a_law_draws : PySem.W.nsIn K mainGlobals "_law_draws" = some (some (.ref r_law_draws)))
    (l_law_draws : K.lookup r_law_draws = some ⟨oc_law_draws, od_law_draws, .func (PySem.W.fnOf "_law_draws" "_law_draws" (defArgs S_law_draws) (defBody S_law_draws) (defScope S_law_draws) .none kV_law_draws dc_law_draws pm_law_draws an_law_draws cd_law_draws ct_law_draws), sl_law_draws⟩)
    (cc_law_draws : PySem.W.codeIn K cd_law_draws "_law_draws" = true)
    (k_law_draws : PySem.W.keepIn K (.ref r_law_draws) = true)
    (a_law_draw : PySem.W.nsIn K mainGlobals "_law_draw" = some (some (.ref r_law_draw)))
    (l_law_draw : K.lookup r_law_draw = some ⟨oc_law_draw, od_law_draw, .func (PySem.W.fnOf "_law_draw" "_law_draw" (defArgs S_law_draw) (defBody S_law_draw) (defScope S_law_draw) .none kV_law_draw dc_law_draw pm_law_draw an_law_draw cd_law_draw ct_law_draw), sl_law_draw⟩)
    (cc_law_draw : PySem.W.codeIn K cd_law_draw "_law_draw" = true)
    (k_law_draw : PySem.W.keepIn K (.ref r_law_draw) = true)
    (a_law_piece : PySem.W.nsIn K mainGlobals "_law_piece" = some (some (.ref r_law_piece)))
    (l_law_piece : K.lookup r_law_piece = some ⟨oc_law_piece, od_law_piece, .func (PySem.W.fnOf "_law_piece" "_law_piece" (defArgs S_law_piece) (defBody S_law_piece) (defScope S_law_piece) .none kV_law_piece dc_law_piece pm_law_piece an_law_piece cd_law_piece ct_law_piece), sl_law_piece⟩)
    (cc_law_piece : PySem.W.codeIn K cd_law_piece "_law_piece" = true)
    (k_law_piece : PySem.W.keepIn K (.ref r_law_piece) = true)
    (a_law_makers : PySem.W.nsIn K mainGlobals "_law_makers" = some (some (.ref r_law_makers)))
    (l_law_makers : K.lookup r_law_makers = some ⟨oc_law_makers, od_law_makers, .func (PySem.W.fnOf "_law_makers" "_law_makers" (defArgs S_law_makers) (defBody S_law_makers) (defScope S_law_makers) .none kV_law_makers dc_law_makers pm_law_makers an_law_makers cd_law_makers ct_law_makers), sl_law_makers⟩)
    (cc_law_makers : PySem.W.codeIn K cd_law_makers "_law_makers" = true)
    (k_law_makers : PySem.W.keepIn K (.ref r_law_makers) = true)
    (aworth : PySem.W.nsIn K mainGlobals "worth" = some (some (.ref rworth)))
    (lworth : K.lookup rworth = some ⟨ocworth, odworth, .func (PySem.W.fnOf "worth" "worth" (defArgs Sworth) (defBody Sworth) (defScope Sworth) .none kVworth dcworth pmworth anworth cdworth ctworth), slworth⟩)
    (ccworth : PySem.W.codeIn K cdworth "worth" = true)
    (kworth : PySem.W.keepIn K (.ref rworth) = true)
    (ais_plain : PySem.W.nsIn K mainGlobals "is_plain" = some (some (.ref ris_plain)))
    (lis_plain : K.lookup ris_plain = some ⟨ocis_plain, odis_plain, .func (PySem.W.fnOf "is_plain" "is_plain" (defArgs Sis_plain) (defBody Sis_plain) (defScope Sis_plain) .none kVis_plain dcis_plain pmis_plain anis_plain cdis_plain ctis_plain), slis_plain⟩)
    (ccis_plain : PySem.W.codeIn K cdis_plain "is_plain" = true)
    (kis_plain : PySem.W.keepIn K (.ref ris_plain) = true)
    (alook_at_plain : PySem.W.nsIn K mainGlobals "look_at_plain" = some (some (.ref rlook_at_plain)))
    (llook_at_plain : K.lookup rlook_at_plain = some ⟨oclook_at_plain, odlook_at_plain, .func (PySem.W.fnOf "look_at_plain" "look_at_plain" (defArgs Slook_at_plain) (defBody Slook_at_plain) (defScope Slook_at_plain) .none kVlook_at_plain dclook_at_plain pmlook_at_plain anlook_at_plain cdlook_at_plain ctlook_at_plain), sllook_at_plain⟩)
    (cclook_at_plain : PySem.W.codeIn K cdlook_at_plain "look_at_plain" = true)
    (klook_at_plain : PySem.W.keepIn K (.ref rlook_at_plain) = true)
    (aword_of : PySem.W.nsIn K mainGlobals "word_of" = some (some (.ref rword_of)))
    (lword_of : K.lookup rword_of = some ⟨ocword_of, odword_of, .func (PySem.W.fnOf "word_of" "word_of" (defArgs Sword_of) (defBody Sword_of) (defScope Sword_of) .none kVword_of dcword_of pmword_of anword_of cdword_of ctword_of), slword_of⟩)
    (ccword_of : PySem.W.codeIn K cdword_of "word_of" = true)
    (kword_of : PySem.W.keepIn K (.ref rword_of) = true)
    (amaker_word_rows : PySem.W.nsIn K mainGlobals "maker_word" = some (some (.ref rmaker_word_rows)))
    (lmaker_word_rows : K.lookup rmaker_word_rows = some ⟨ocmaker_word_rows, odmaker_word_rows, .func (PySem.W.fnOf "maker_word" "maker_word" (defArgs Smaker_word_rows) (defBody Smaker_word_rows) (defScope Smaker_word_rows) .none kVmaker_word_rows dcmaker_word_rows pmmaker_word_rows anmaker_word_rows cdmaker_word_rows ctmaker_word_rows), slmaker_word_rows⟩)
    (ccmaker_word_rows : PySem.W.codeIn K cdmaker_word_rows "maker_word" = true)
    (kmaker_word_rows : PySem.W.keepIn K (.ref rmaker_word_rows) = true)
    (awords_of : PySem.W.nsIn K mainGlobals "words_of" = some (some (.ref rwords_of)))
    (lwords_of : K.lookup rwords_of = some ⟨ocwords_of, odwords_of, .func (PySem.W.fnOf "words_of" "words_of" (defArgs Swords_of) (defBody Swords_of) (defScope Swords_of) .none kVwords_of dcwords_of pmwords_of anwords_of cdwords_of ctwords_of), slwords_of⟩)
    (ccwords_of : PySem.W.codeIn K cdwords_of "words_of" = true)
    (kwords_of : PySem.W.keepIn K (.ref rwords_of) = true)
    (arest_rows : PySem.W.nsIn K mainGlobals "rest_rows" = some (some (.ref rrest_rows)))
    (lrest_rows : K.lookup rrest_rows = some ⟨ocrest_rows, odrest_rows, .func (PySem.W.fnOf "rest_rows" "rest_rows" (defArgs Srest_rows) (defBody Srest_rows) (defScope Srest_rows) .none kVrest_rows dcrest_rows pmrest_rows anrest_rows cdrest_rows ctrest_rows), slrest_rows⟩)
    (ccrest_rows : PySem.W.codeIn K cdrest_rows "rest_rows" = true)
    (krest_rows : PySem.W.keepIn K (.ref rrest_rows) = true)
    (arow_for : PySem.W.nsIn K mainGlobals "row_for" = some (some (.ref rrow_for)))
    (lrow_for : K.lookup rrow_for = some ⟨ocrow_for, odrow_for, .func (PySem.W.fnOf "row_for" "row_for" (defArgs Srow_for) (defBody Srow_for) (defScope Srow_for) .none kVrow_for dcrow_for pmrow_for anrow_for cdrow_for ctrow_for), slrow_for⟩)
    (ccrow_for : PySem.W.codeIn K cdrow_for "row_for" = true)
    (krow_for : PySem.W.keepIn K (.ref rrow_for) = true)
    (aneeded : PySem.W.nsIn K mainGlobals "needed" = some (some (.ref rneeded)))
    (lneeded : K.lookup rneeded = some ⟨ocneeded, odneeded, .func (PySem.W.fnOf "needed" "needed" (defArgs Sneeded) (defBody Sneeded) (defScope Sneeded) .none kVneeded dcneeded pmneeded anneeded cdneeded ctneeded), slneeded⟩)
    (ccneeded : PySem.W.codeIn K cdneeded "needed" = true)
    (kneeded : PySem.W.keepIn K (.ref rneeded) = true)
    (a_law_counts : PySem.W.nsIn K mainGlobals "_law_counts" = some (some (.ref r_law_counts)))
    (l_law_counts : K.lookup r_law_counts = some ⟨oc_law_counts, od_law_counts, .func (PySem.W.fnOf "_law_counts" "_law_counts" (defArgs S_law_counts) (defBody S_law_counts) (defScope S_law_counts) .none kV_law_counts dc_law_counts pm_law_counts an_law_counts cd_law_counts ct_law_counts), sl_law_counts⟩)
    (cc_law_counts : PySem.W.codeIn K cd_law_counts "_law_counts" = true)
    (k_law_counts : PySem.W.keepIn K (.ref r_law_counts) = true)
    (a_law_can : PySem.W.nsIn K mainGlobals "_law_can" = some (some (.ref r_law_can)))
    (l_law_can : K.lookup r_law_can = some ⟨oc_law_can, od_law_can, .func (PySem.W.fnOf "_law_can" "_law_can" (defArgs S_law_can) (defBody S_law_can) (defScope S_law_can) .none kV_law_can dc_law_can pm_law_can an_law_can cd_law_can ct_law_can), sl_law_can⟩)
    (cc_law_can : PySem.W.codeIn K cd_law_can "_law_can" = true)
    (k_law_can : PySem.W.keepIn K (.ref r_law_can) = true)
    (a_law_needed : PySem.W.nsIn K mainGlobals "_law_needed" = some (some (.ref r_law_needed)))
    (l_law_needed : K.lookup r_law_needed = some ⟨oc_law_needed, od_law_needed, .func (PySem.W.fnOf "_law_needed" "_law_needed" (defArgs S_law_needed) (defBody S_law_needed) (defScope S_law_needed) .none kV_law_needed dc_law_needed pm_law_needed an_law_needed cd_law_needed ct_law_needed), sl_law_needed⟩)
    (cc_law_needed : PySem.W.codeIn K cd_law_needed "_law_needed" = true)
    (k_law_needed : PySem.W.keepIn K (.ref r_law_needed) = true)
    (a_law_other : PySem.W.nsIn K mainGlobals "_law_other" = some (some (.ref r_law_other)))
    (l_law_other : K.lookup r_law_other = some ⟨oc_law_other, od_law_other, .func (PySem.W.fnOf "_law_other" "_law_other" (defArgs S_law_other) (defBody S_law_other) (defScope S_law_other) .none kV_law_other dc_law_other pm_law_other an_law_other cd_law_other ct_law_other), sl_law_other⟩)
    (cc_law_other : PySem.W.codeIn K cd_law_other "_law_other" = true)
    (k_law_other : PySem.W.keepIn K (.ref r_law_other) = true)
    (a_law_times : PySem.W.nsIn K mainGlobals "_law_times" = some (some (.ref r_law_times)))
    (l_law_times : K.lookup r_law_times = some ⟨oc_law_times, od_law_times, .func (PySem.W.fnOf "_law_times" "_law_times" (defArgs S_law_times) (defBody S_law_times) (defScope S_law_times) .none kV_law_times dc_law_times pm_law_times an_law_times cd_law_times ct_law_times), sl_law_times⟩)
    (cc_law_times : PySem.W.codeIn K cd_law_times "_law_times" = true)
    (k_law_times : PySem.W.keepIn K (.ref r_law_times) = true)
    (a_law_made : PySem.W.nsIn K mainGlobals "_law_made" = some (some (.ref r_law_made)))
    (l_law_made : K.lookup r_law_made = some ⟨oc_law_made, od_law_made, .func (PySem.W.fnOf "_law_made" "_law_made" (defArgs S_law_made) (defBody S_law_made) (defScope S_law_made) .none kV_law_made dc_law_made pm_law_made an_law_made cd_law_made ct_law_made), sl_law_made⟩)
    (cc_law_made : PySem.W.codeIn K cd_law_made "_law_made" = true)
    (k_law_made : PySem.W.keepIn K (.ref r_law_made) = true)
    (a_law_of_letters : PySem.W.nsIn K mainGlobals "_law_of_letters" = some (some (.ref r_law_of_letters)))
    (l_law_of_letters : K.lookup r_law_of_letters = some ⟨oc_law_of_letters, od_law_of_letters, .func (PySem.W.fnOf "_law_of_letters" "_law_of_letters" (defArgs S_law_of_letters) (defBody S_law_of_letters) (defScope S_law_of_letters) .none kV_law_of_letters dc_law_of_letters pm_law_of_letters an_law_of_letters cd_law_of_letters ct_law_of_letters), sl_law_of_letters⟩)
    (cc_law_of_letters : PySem.W.codeIn K cd_law_of_letters "_law_of_letters" = true)
    (k_law_of_letters : PySem.W.keepIn K (.ref r_law_of_letters) = true)
    (asame : PySem.W.nsIn K mainGlobals "same" = some (some (.ref rsame)))
    (lsame : K.lookup rsame = some ⟨ocsame, odsame, .func (PySem.W.fnOf "same" "same" (defArgs Ssame) (defBody Ssame) (defScope Ssame) .none kVsame dcsame pmsame ansame cdsame ctsame), slsame⟩)
    (ccsame : PySem.W.codeIn K cdsame "same" = true)
    (ksame : PySem.W.keepIn K (.ref rsame) = true)
    (a_law_whole : PySem.W.nsIn K mainGlobals "_law_whole" = some (some (.ref r_law_whole)))
    (l_law_whole : K.lookup r_law_whole = some ⟨oc_law_whole, od_law_whole, .func (PySem.W.fnOf "_law_whole" "_law_whole" (defArgs S_law_whole) (defBody S_law_whole) (defScope S_law_whole) .none kV_law_whole dc_law_whole pm_law_whole an_law_whole cd_law_whole ct_law_whole), sl_law_whole⟩)
    (cc_law_whole : PySem.W.codeIn K cd_law_whole "_law_whole" = true)
    (k_law_whole : PySem.W.keepIn K (.ref r_law_whole) = true)
    (alaw : PySem.W.nsIn K mainGlobals "law" = some (some (.ref rlaw)))
    (llaw : K.lookup rlaw = some ⟨oclaw, odlaw, .func (PySem.W.fnOf "law" "law" (defArgs Slaw) (defBody Slaw) (defScope Slaw) .none kVlaw dclaw pmlaw anlaw cdlaw ctlaw), sllaw⟩)
    (cclaw : PySem.W.codeIn K cdlaw "law" = true)
    (klaw : PySem.W.keepIn K (.ref rlaw) = true)
    (z_bool : PySem.W.nsIn K mainGlobals "bool" = some none)
    (z_enumerate : PySem.W.nsIn K mainGlobals "enumerate" = some none)
    (z_int : PySem.W.nsIn K mainGlobals "int" = some none)
    (z_isinstance : PySem.W.nsIn K mainGlobals "isinstance" = some none)
    (z_len : PySem.W.nsIn K mainGlobals "len" = some none)
    (z_list : PySem.W.nsIn K mainGlobals "list" = some none)
    (z_max : PySem.W.nsIn K mainGlobals "max" = some none)
    (z_min : PySem.W.nsIn K mainGlobals "min" = some none)
    (z_range : PySem.W.nsIn K mainGlobals "range" = some none)
    (z_sum : PySem.W.nsIn K mainGlobals "sum" = some none)
    (z_tuple : PySem.W.nsIn K mainGlobals "tuple" = some none)
    (a_MOST_LETTERS : PySem.W.nsIn K mainGlobals "MOST_LETTERS" = some (some (.int 400 tk_MOST_LETTERS)))
    (a_MOST_MAKERS : PySem.W.nsIn K mainGlobals "MOST_MAKERS" = some (some (.int 8 tk_MOST_MAKERS)))
    (a_MOST_OF_MAKER : PySem.W.nsIn K mainGlobals "MOST_OF_MAKER" = some (some (.int 40 tk_MOST_OF_MAKER)))
    (a_ONE : PySem.W.nsIn K mainGlobals "ONE" = some (some (.ref r_ONE)))
    (l_ONE : K.lookup r_ONE = some ⟨.type "tuple", od_ONE, .seq #[.int 1 tkONE0, .int 0 tkONE1, .int 0 tkONE2, .int 1 tkONE3] n_ONE, sl_ONE⟩)
    (a_NoMakers : PySem.W.nsIn K mainGlobals "NoMakers" = some (some (.ref C_NoMakers)))
    (a_NoPlain : PySem.W.nsIn K mainGlobals "NoPlain" = some (some (.ref C_NoPlain)))
    (a_TooLong : PySem.W.nsIn K mainGlobals "TooLong" = some (some (.ref C_TooLong)))
    (e1_NoMakers : PySem.W.excIn K C_NoMakers [.type "ValueError", .type "Exception", .type "BaseException", .type "object"] "ValueError.__new__" = true)
    (e2_NoMakers : PySem.W.keepIn K (.ref C_NoMakers) = true)
    (e3_NoMakers : PySem.W.subIn K (.ref C_NoMakers) (.type "BaseException") = some true)
    (e4_NoMakers : PySem.W.typeIn K (.ref C_NoMakers) = some (.type "type"))
    (e1_NoPlain : PySem.W.excIn K C_NoPlain [.type "ValueError", .type "Exception", .type "BaseException", .type "object"] "ValueError.__new__" = true)
    (e2_NoPlain : PySem.W.keepIn K (.ref C_NoPlain) = true)
    (e3_NoPlain : PySem.W.subIn K (.ref C_NoPlain) (.type "BaseException") = some true)
    (e4_NoPlain : PySem.W.typeIn K (.ref C_NoPlain) = some (.type "type"))
    (e1_TooLong : PySem.W.excIn K C_TooLong [.type "ValueError", .type "Exception", .type "BaseException", .type "object"] "ValueError.__new__" = true)
    (e2_TooLong : PySem.W.keepIn K (.ref C_TooLong) = true)
    (e3_TooLong : PySem.W.subIn K (.ref C_TooLong) (.type "BaseException") = some true)
    (e4_TooLong : PySem.W.typeIn K (.ref C_TooLong) = some (.type "type")) :
    ∃ fd : FuncData, (∀ (s : Shared) (v : Value), BindsTo s fd ⟨[v], []⟩ [("script", v)]) ∧ ∀ base : Heap, K.In base → base.Ns mainGlobals mg → FnOk P w K mg base (L2N.CX P w) 8 fa fd ["script"] (spL K) := by
  have e := hfa.symm.trans (PySem.W.mg_of X G alaw)
  cases e
  refine ⟨_, fun s v => ?_, fun base _ _ => FnOk.imp (ok_law (P := P) (w := w) (K := K) (mg := mg) (base := base) {
    d_law_draws := ⟨_, _, fun_mk (st := S_law_draws) l_law_draws cc_law_draws k_law_draws, PySem.W.mg_of X G a_law_draws⟩,
    d_law_draw := ⟨_, _, fun_mk (st := S_law_draw) l_law_draw cc_law_draw k_law_draw, PySem.W.mg_of X G a_law_draw⟩,
    d_law_piece := ⟨_, _, fun_mk (st := S_law_piece) l_law_piece cc_law_piece k_law_piece, PySem.W.mg_of X G a_law_piece⟩,
    d_law_makers := ⟨_, _, fun_mk (st := S_law_makers) l_law_makers cc_law_makers k_law_makers, PySem.W.mg_of X G a_law_makers⟩,
    dworth := ⟨_, _, fun_mk (st := Sworth) lworth ccworth kworth, PySem.W.mg_of X G aworth⟩,
    dis_plain := ⟨_, _, fun_mk (st := Sis_plain) lis_plain ccis_plain kis_plain, PySem.W.mg_of X G ais_plain⟩,
    dlook_at_plain := ⟨_, _, fun_mk (st := Slook_at_plain) llook_at_plain cclook_at_plain klook_at_plain, PySem.W.mg_of X G alook_at_plain⟩,
    dword_of := ⟨_, _, fun_mk (st := Sword_of) lword_of ccword_of kword_of, PySem.W.mg_of X G aword_of⟩,
    dmaker_word_rows := ⟨_, _, fun_mk (st := Smaker_word_rows) lmaker_word_rows ccmaker_word_rows kmaker_word_rows, PySem.W.mg_of X G amaker_word_rows⟩,
    dwords_of := ⟨_, _, fun_mk (st := Swords_of) lwords_of ccwords_of kwords_of, PySem.W.mg_of X G awords_of⟩,
    drest_rows := ⟨_, _, fun_mk (st := Srest_rows) lrest_rows ccrest_rows krest_rows, PySem.W.mg_of X G arest_rows⟩,
    drow_for := ⟨_, _, fun_mk (st := Srow_for) lrow_for ccrow_for krow_for, PySem.W.mg_of X G arow_for⟩,
    dneeded := ⟨_, _, fun_mk (st := Sneeded) lneeded ccneeded kneeded, PySem.W.mg_of X G aneeded⟩,
    d_law_counts := ⟨_, _, fun_mk (st := S_law_counts) l_law_counts cc_law_counts k_law_counts, PySem.W.mg_of X G a_law_counts⟩,
    d_law_can := ⟨_, _, fun_mk (st := S_law_can) l_law_can cc_law_can k_law_can, PySem.W.mg_of X G a_law_can⟩,
    d_law_needed := ⟨_, _, fun_mk (st := S_law_needed) l_law_needed cc_law_needed k_law_needed, PySem.W.mg_of X G a_law_needed⟩,
    d_law_other := ⟨_, _, fun_mk (st := S_law_other) l_law_other cc_law_other k_law_other, PySem.W.mg_of X G a_law_other⟩,
    d_law_times := ⟨_, _, fun_mk (st := S_law_times) l_law_times cc_law_times k_law_times, PySem.W.mg_of X G a_law_times⟩,
    d_law_made := ⟨_, _, fun_mk (st := S_law_made) l_law_made cc_law_made k_law_made, PySem.W.mg_of X G a_law_made⟩,
    d_law_of_letters := ⟨_, _, fun_mk (st := S_law_of_letters) l_law_of_letters cc_law_of_letters k_law_of_letters, PySem.W.mg_of X G a_law_of_letters⟩,
    dsame := ⟨_, _, fun_mk (st := Ssame) lsame ccsame ksame, PySem.W.mg_of X G asame⟩,
    d_law_whole := ⟨_, _, fun_mk (st := S_law_whole) l_law_whole cc_law_whole k_law_whole, PySem.W.mg_of X G a_law_whole⟩,
    dlaw := ⟨_, _, fun_mk (st := Slaw) llaw cclaw klaw, PySem.W.mg_of X G alaw⟩,
    z_bool := PySem.W.mg_none_of X G z_bool,
    z_enumerate := PySem.W.mg_none_of X G z_enumerate,
    z_int := PySem.W.mg_none_of X G z_int,
    z_isinstance := PySem.W.mg_none_of X G z_isinstance,
    z_len := PySem.W.mg_none_of X G z_len,
    z_list := PySem.W.mg_none_of X G z_list,
    z_max := PySem.W.mg_none_of X G z_max,
    z_min := PySem.W.mg_none_of X G z_min,
    z_range := PySem.W.mg_none_of X G z_range,
    z_sum := PySem.W.mg_none_of X G z_sum,
    z_tuple := PySem.W.mg_none_of X G z_tuple,
    g_MOST_LETTERS := ⟨_, PySem.W.mg_of X G a_MOST_LETTERS⟩,
    g_MOST_MAKERS := ⟨_, PySem.W.mg_of X G a_MOST_MAKERS⟩,
    g_MOST_OF_MAKER := ⟨_, PySem.W.mg_of X G a_MOST_OF_MAKER⟩,
    g_ONE := ⟨r_ONE, _, _, _, [V.int 1, V.int 0, V.int 0, V.int 1], PySem.W.mg_of X G a_ONE, l_ONE, rfl, rfl, (by show 4 ≤ sizeLine; decide), (.cons ⟨_, rfl⟩ (.cons ⟨_, rfl⟩ (.cons ⟨_, rfl⟩ (.cons ⟨_, rfl⟩ .nil)))), fun _ => (.cons (.int _) (.cons (.int _) (.cons (.int _) (.cons (.int _) .nil))))⟩,
    x_NoMakers := ⟨C_NoMakers, PySem.W.mg_of X G a_NoMakers, e1_NoMakers, e2_NoMakers, e3_NoMakers, e4_NoMakers⟩,
    x_NoPlain := ⟨C_NoPlain, PySem.W.mg_of X G a_NoPlain, e1_NoPlain, e2_NoPlain, e3_NoPlain, e4_NoPlain⟩,
    x_TooLong := ⟨C_TooLong, PySem.W.mg_of X G a_TooLong, e1_TooLong, e2_TooLong, e3_TooLong, e4_TooLong⟩ } (fun_mk (st := Slaw) llaw cclaw klaw)) fun vs H Q E h => law_imp law_ok h⟩
  exact .of_eq rfl
end QL
open PySem PySem.W PyProof.Rows
set_option maxHeartbeats 0 in
theorem PySem.Challenge.cw_quadwords_k23_whole_needed_and_same_holds : PySem.Challenge.rw_quadwords_k23_whole_needed_and_same.Holds := by
  w_on; o_law; k_head; (case hw => w_witness2)
  k_fill
  refine L2.walk_of (l := PySem.Challenge.rw_quadwords_k23_whole_needed_and_same) (n := 63) (k := 8) (x := "script") (CX := fun w => L2N.CX PySem.Challenge.pw_quadwords_k23_whole_needed_and_same w) (sp := fun w => QW.spL _) rfl (by decide) rfl ⟨rfl, by decide, by decide⟩ (fun w h Y => PySem.W.kIn_of Y) ?F (fun _ _ a ns hl _ hS => ⟨a, ns, rfl, hS, hl, fun _ => rfl⟩) (fun _ _ _ _ _ h => by
    obtain ⟨_, _, _, _, _, _, _, _, _, _, _, _, z⟩ := h
    exact z)
  case F =>
    intro w mg fa h KX G hmg
    refine' QL.all_mk KX G hmg ?a_law_draws ?l_law_draws ?cc_law_draws ?k_law_draws ?a_law_draw ?l_law_draw ?cc_law_draw ?k_law_draw ?a_law_piece ?l_law_piece ?cc_law_piece ?k_law_piece ?a_law_makers ?l_law_makers ?cc_law_makers ?k_law_makers ?aworth ?lworth ?ccworth ?kworth ?ais_plain ?lis_plain ?ccis_plain ?kis_plain ?alook_at_plain ?llook_at_plain ?cclook_at_plain ?klook_at_plain ?aword_of ?lword_of ?ccword_of ?kword_of ?amaker_word_rows ?lmaker_word_rows ?ccmaker_word_rows ?kmaker_word_rows ?awords_of ?lwords_of ?ccwords_of ?kwords_of ?arest_rows ?lrest_rows ?ccrest_rows ?krest_rows ?arow_for ?lrow_for ?ccrow_for ?krow_for ?aneeded ?lneeded ?ccneeded ?kneeded ?a_law_counts ?l_law_counts ?cc_law_counts ?k_law_counts ?a_law_can ?l_law_can ?cc_law_can ?k_law_can ?a_law_needed ?l_law_needed ?cc_law_needed ?k_law_needed ?a_law_other ?l_law_other ?cc_law_other ?k_law_other ?a_law_times ?l_law_times ?cc_law_times ?k_law_times ?a_law_made ?l_law_made ?cc_law_made ?k_law_made ?a_law_of_letters ?l_law_of_letters ?cc_law_of_letters ?k_law_of_letters ?asame ?lsame ?ccsame ?ksame ?a_law_whole ?l_law_whole ?cc_law_whole ?k_law_whole ?alaw ?llaw ?cclaw ?klaw ?z_bool ?z_enumerate ?z_int ?z_isinstance ?z_len ?z_list ?z_max ?z_min ?z_range ?z_sum ?z_tuple ?a_MOST_LETTERS ?a_MOST_MAKERS ?a_MOST_OF_MAKER ?a_ONE ?l_ONE ?a_NoMakers ?a_NoPlain ?a_TooLong ?e1_NoMakers ?e2_NoMakers ?e3_NoMakers ?e4_NoMakers ?e1_NoPlain ?e2_NoPlain ?e3_NoPlain ?e4_NoPlain ?e1_TooLong ?e2_TooLong ?e3_TooLong ?e4_TooLong
    (case a_law_draws => k_is); (case l_law_draws => k_is); (case cc_law_draws => k_is); (case k_law_draws => k_is); (case a_law_draw => k_is); (case l_law_draw => k_is); (case cc_law_draw => k_is); (case k_law_draw => k_is); (case a_law_piece => k_is); (case l_law_piece => k_is); (case cc_law_piece => k_is); (case k_law_piece => k_is); (case a_law_makers => k_is); (case l_law_makers => k_is); (case cc_law_makers => k_is); (case k_law_makers => k_is); (case aworth => k_is); (case lworth => k_is); (case ccworth => k_is); (case kworth => k_is); (case ais_plain => k_is); (case lis_plain => k_is); (case ccis_plain => k_is); (case kis_plain => k_is); (case alook_at_plain => k_is); (case llook_at_plain => k_is); (case cclook_at_plain => k_is); (case klook_at_plain => k_is); (case aword_of => k_is); (case lword_of => k_is); (case ccword_of => k_is); (case kword_of => k_is); (case amaker_word_rows => k_is); (case lmaker_word_rows => k_is); (case ccmaker_word_rows => k_is); (case kmaker_word_rows => k_is); (case awords_of => k_is); (case lwords_of => k_is); (case ccwords_of => k_is); (case kwords_of => k_is); (case arest_rows => k_is); (case lrest_rows => k_is); (case ccrest_rows => k_is); (case krest_rows => k_is); (case arow_for => k_is); (case lrow_for => k_is); (case ccrow_for => k_is); (case krow_for => k_is); (case aneeded => k_is); (case lneeded => k_is); (case ccneeded => k_is); (case kneeded => k_is); (case a_law_counts => k_is); (case l_law_counts => k_is); (case cc_law_counts => k_is); (case k_law_counts => k_is); (case a_law_can => k_is); (case l_law_can => k_is); (case cc_law_can => k_is); (case k_law_can => k_is); (case a_law_needed => k_is); (case l_law_needed => k_is); (case cc_law_needed => k_is); (case k_law_needed => k_is); (case a_law_other => k_is); (case l_law_other => k_is); (case cc_law_other => k_is); (case k_law_other => k_is); (case a_law_times => k_is); (case l_law_times => k_is); (case cc_law_times => k_is); (case k_law_times => k_is); (case a_law_made => k_is); (case l_law_made => k_is); (case cc_law_made => k_is); (case k_law_made => k_is); (case a_law_of_letters => k_is); (case l_law_of_letters => k_is); (case cc_law_of_letters => k_is); (case k_law_of_letters => k_is); (case asame => k_is); (case lsame => k_is); (case ccsame => k_is); (case ksame => k_is); (case a_law_whole => k_is); (case l_law_whole => k_is); (case cc_law_whole => k_is); (case k_law_whole => k_is); (case alaw => k_is); (case llaw => k_is); (case cclaw => k_is); (case klaw => k_is); (case z_bool => k_is); (case z_enumerate => k_is); (case z_int => k_is); (case z_isinstance => k_is); (case z_len => k_is); (case z_list => k_is); (case z_max => k_is); (case z_min => k_is); (case z_range => k_is); (case z_sum => k_is); (case z_tuple => k_is); (case a_MOST_LETTERS => k_is); (case a_MOST_MAKERS => k_is); (case a_MOST_OF_MAKER => k_is); (case a_ONE => k_is); (case l_ONE => k_is); (case a_NoMakers => k_is); (case a_NoPlain => k_is); (case a_TooLong => k_is); (case e1_NoMakers => k_exc); (case e2_NoMakers => k_is); (case e3_NoMakers => k_is); (case e4_NoMakers => k_is); (case e1_NoPlain => k_exc); (case e2_NoPlain => k_is); (case e3_NoPlain => k_is); (case e4_NoPlain => k_is); (case e1_TooLong => k_exc); (case e2_TooLong => k_is); (case e3_TooLong => k_is); (case e4_TooLong => k_is)

end
