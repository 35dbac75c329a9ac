import PyProof.Rows.All
import Wide.All
import OpenK.AllK
import Wide.FinOn
import HandS.ForMost
import HandS.TupAny
import HandS.TupMul
import HandS.Flow
import HandS.Deep
import HandS.IsInst
import HandS.TupLen
import HandS.Zip
import KE.GoesMore
import HandS.Style
import HandS.ForExc
import HandS.Defaults
import HandS.SortOrd
import HandS.SortInts
import HandS.TupSets
import HandS.Conv
import HandS.OwnEq
import HandS.Codes
import PySem.Challenge.RW_fanroads_k44_whole_what_is_equal_and_wha
set_option Elab.async false
set_option linter.all false
set_option maxRecDepth 100000
namespace Ev
open PySem L2

/-- plain values, without addresses -/
inductive D where
  | non
  | bl (b : Bool)
  | int (i : Int)
  | str (s : Str)
  | tup (ds : List D)
  | lst (ds : List D)
  | ins (c : Nat) (ds : List D)
  | dic (t : Bool) (ks : List (List Key)) (vs : List D)
  | st

/-- the fields of the program's classes, in the order in which __init__ stores them -/
def fN : Nat → List Str
  | 0 => ["n", "d"]
  | 1 => ["n", "zeros", "dim", "sides", "rays"]
  | 2 => ["n", "rays", "cones", "parts"]
  | _ => []

/-- the two cells of the draws' state -/
abbrev W := Int × Int

/-- what is known of a slot -/
inductive SV where
  | no
  | fr (d : D)
  | bor (d : D)
  | own (d : D)

section
variable (cA : Nat → Addr) (ast : Addr)
mutual
def RelD (F : Hp) : D → V → Prop
  | .non, v => v = .non
  | .bl b, v => v = .bl b
  | .int i, v => v = .int i
  | .str s, v => v = .str s
  | .tup ds, v => ∃ a vs, v = .ref a ∧ F a = some (.tup vs) ∧ RelDs F ds vs
  | .lst ds, v => ∃ a vs, v = .ref a ∧ F a = some (.lst vs) ∧ RelDs F ds vs
  | .ins c ds, v => ∃ a dx vs, v = .ref a ∧ F a = some (.ins (cA c) dx ((fN c).zip vs)) ∧ RelDs F ds vs
  | .dic _ _ _, _ => False
  | .st, v => v = .ref ast
def RelDs (F : Hp) : List D → List V → Prop
  | [], vs => vs = []
  | d :: ds, vs => ∃ v r, vs = v :: r ∧ RelD F d v ∧ RelDs F ds r
end
end

def Sub (F F' : Hp) : Prop := ∀ a o, F a = some o → F' a = some o
theorem Sub.rfl' {F : Hp} : Sub F F := fun _ _ h => h
theorem Sub.trans {F F1 F2 : Hp} (a : Sub F F1) (b : Sub F1 F2) : Sub F F2 := fun c o h => b c o (a c o h)
theorem Sub.upd {F : Hp} {p : Addr} {o : HO} (h : F p = none) : Sub F (upd F p o) := fun a u e => by rw [upd_ne (ne_of_none e h)]; exact e
theorem Sub.none {F F' : Hp} (s : Sub F F') {a : Addr} (h : F' a = none) : F a = none := by
  cases q : F a with
  | none => rfl
  | some o => rw [s a o q] at h; cases h

variable {cA : Nat → Addr} {ast : Addr}
mutual
theorem RelD.mono {F F' : Hp} (s : Sub F F') : ∀ (d : D) (v : V), RelD cA ast F d v → RelD cA ast F' d v
  | .non, _, h => h
  | .bl _, _, h => h
  | .int _, _, h => h
  | .str _, _, h => h
  | .tup ds, _, ⟨a, vs, e, h, r⟩ => ⟨a, vs, e, s _ _ h, RelDs.mono s ds vs r⟩
  | .lst ds, _, ⟨a, vs, e, h, r⟩ => ⟨a, vs, e, s _ _ h, RelDs.mono s ds vs r⟩
  | .ins c ds, _, ⟨a, dx, vs, e, h, r⟩ => ⟨a, dx, vs, e, s _ _ h, RelDs.mono s ds vs r⟩
  | .dic _ _ _, _, h => h
  | .st, _, h => h
theorem RelDs.mono {F F' : Hp} (s : Sub F F') : ∀ (ds : List D) (vs : List V), RelDs cA ast F ds vs → RelDs cA ast F' ds vs
  | [], _, h => h
  | d :: ds, _, ⟨v, r, e, h1, h2⟩ => ⟨v, r, e, RelD.mono s d v h1, RelDs.mono s ds r h2⟩
end

section
variable {F F' H H' : Hp}
theorem RelDs.length : ∀ {ds : List D} {vs : List V}, RelDs cA ast F ds vs → ds.length = vs.length
  | [], _, h => by cases h; rfl
  | _ :: ds, _, ⟨v, r, e, _, h⟩ => by subst e; simp [RelDs.length h]
theorem RelDs.get : ∀ {ds : List D} {vs : List V} {i : Nat} {d : D}, RelDs cA ast F ds vs → ds[i]? = some d → ∃ v, vs[i]? = some v ∧ RelD cA ast F d v
  | [], _, _, _, _, h => by simp at h
  | d :: ds, _, 0, d', ⟨v, r, e, h1, _⟩, h => by subst e; simp at h; subst h; exact ⟨v, rfl, h1⟩
  | d :: ds, _, i + 1, d', ⟨v, r, e, _, h2⟩, h => by
    subst e
    obtain ⟨u, e1, e2⟩ := RelDs.get (i := i) h2 (by simpa using h)
    exact ⟨u, by simpa using e1, e2⟩
theorem RelDs.append : ∀ {ds es : List D} {vs us : List V}, RelDs cA ast F ds vs → RelDs cA ast F es us → RelDs cA ast F (ds ++ es) (vs ++ us)
  | [], _, _, _, h, g => by cases h; exact g
  | _ :: ds, _, _, _, ⟨v, r, e, h1, h2⟩, g => by subst e; exact ⟨v, r ++ _, rfl, h1, RelDs.append h2 g⟩
theorem RelDs.drop : ∀ {ds : List D} {vs : List V} (n : Nat), RelDs cA ast F ds vs → RelDs cA ast F (ds.drop n) (vs.drop n)
  | ds, vs, 0, h => by simpa using h
  | [], _, n + 1, h => by cases h; simp [RelDs]
  | _ :: ds, _, n + 1, ⟨v, r, e, _, h⟩ => by subst e; simpa using RelDs.drop n h
theorem RelDs.take : ∀ {ds : List D} {vs : List V} (n : Nat), RelDs cA ast F ds vs → RelDs cA ast F (ds.take n) (vs.take n)
  | ds, vs, 0, h => by simp [RelDs]
  | [], _, n + 1, h => by cases h; simp [RelDs]
  | _ :: ds, _, n + 1, ⟨v, r, e, h1, h⟩ => by subst e; exact ⟨v, _, rfl, h1, RelDs.take n h⟩
theorem RelDs.set : ∀ {ds : List D} {vs : List V} (n : Nat) {d : D} {v : V}, RelDs cA ast F ds vs → RelD cA ast F d v → RelDs cA ast F (ds.set n d) (vs.set n v)
  | [], _, n, _, _, h, _ => by cases h; simp [RelDs]
  | _ :: ds, _, 0, _, u, ⟨v, r, e, _, h⟩, g => by subst e; exact ⟨u, r, rfl, g, h⟩
  | _ :: ds, _, n + 1, _, _, ⟨v, r, e, h1, h⟩, g => by subst e; exact ⟨v, _, rfl, h1, RelDs.set n h g⟩
theorem RelDs.reverse_aux : ∀ {ds es : List D} {vs us : List V}, RelDs cA ast F ds vs → RelDs cA ast F es us → RelDs cA ast F (ds.reverse ++ es) (vs.reverse ++ us)
  | [], _, _, _, h, g => by cases h; exact g
  | d :: ds, es, _, us, ⟨v, r, e, h1, h2⟩, g => by
    subst e
    have := RelDs.reverse_aux (es := d :: es) (us := v :: us) h2 ⟨v, us, rfl, h1, g⟩
    simpa using this
theorem RelDs.nil : RelDs cA ast F [] [] := rfl
theorem RelDs.one {d : D} {v : V} (h : RelD cA ast F d v) : RelDs cA ast F [d] [v] := ⟨v, [], rfl, h, rfl⟩
theorem RelDs.cons {d : D} {v : V} {ds : List D} {vs : List V} (h : RelD cA ast F d v) (g : RelDs cA ast F ds vs) : RelDs cA ast F (d :: ds) (v :: vs) := ⟨v, vs, rfl, h, g⟩
end

/-! ### dicts that one holds oneself: of ints or texts (t false), of tuples of such (t true) -/
def DicAt (cA : Nat → Addr) (ast : Addr) (F H : Hp) (a : Addr) : Bool → List (List Key) → List D → Prop
  | false, ks, ds => ∃ kvs : List (Key × V), H a = some (.dK kvs) ∧ ks = kvs.map (fun p => [p.1]) ∧ RelDs cA ast F ds (kvs.map (·.2))
  | true, ks, ds => ∃ kvs : List (List Key × V), H a = some (.dT kvs) ∧ ks = kvs.map (·.1) ∧ RelDs cA ast F ds (kvs.map (·.2))
theorem DicAt.ex {F H : Hp} {a : Addr} : ∀ {t : Bool} {ks : List (List Key)} {ds : List D}, DicAt cA ast F H a t ks ds → ∃ o, H a = some o
  | false, _, _, ⟨_, h, _⟩ => ⟨_, h⟩
  | true, _, _, ⟨_, h, _⟩ => ⟨_, h⟩
theorem DicAt.keep {F F' H H' : Hp} (s : Sub F F') {a : Addr} (k : ∀ o, H a = some o → H' a = some o) : ∀ {t : Bool} {ks : List (List Key)} {ds : List D}, DicAt cA ast F H a t ks ds → DicAt cA ast F' H' a t ks ds
  | false, _, _, ⟨kvs, h, e, r⟩ => ⟨kvs, k _ h, e, r.mono s⟩
  | true, _, _, ⟨kvs, h, e, r⟩ => ⟨kvs, k _ h, e, r.mono s⟩

/-- an object of one's own: not known to be left alone -/
def RelU (cA : Nat → Addr) (ast : Addr) (F H : Hp) : D → V → Prop
  | .lst ds, v => ∃ a vs, v = .ref a ∧ F a = none ∧ H a = some (.lst vs) ∧ RelDs cA ast F ds vs
  | .ins c ds, v => ∃ a dx vs, v = .ref a ∧ F a = none ∧ H a = some (.ins (cA c) dx ((fN c).zip vs)) ∧ vs.length ≤ (fN c).length ∧ RelDs cA ast F ds vs
  | .dic t ks ds, v => ∃ a, v = .ref a ∧ F a = none ∧ DicAt cA ast F H a t ks ds
  | _, _ => False
theorem RelU.at {F H : Hp} : ∀ {d : D} {v : V}, RelU cA ast F H d v → ∃ a o, v = .ref a ∧ F a = none ∧ H a = some o
  | .lst _, _, ⟨a, vs, e, h1, h2, _⟩ => ⟨a, _, e, h1, h2⟩
  | .ins _ _, _, ⟨a, dx, vs, e, h1, h2, _⟩ => ⟨a, _, e, h1, h2⟩
  | .dic _ _ _, _, ⟨a, e, h1, h2⟩ => let ⟨o, ho⟩ := DicAt.ex h2; ⟨a, o, e, h1, ho⟩
  | .non, _, h => h.elim
  | .bl _, _, h => h.elim
  | .int _, _, h => h.elim
  | .str _, _, h => h.elim
  | .tup _, _, h => h.elim
  | .st, _, h => h.elim
/-- what may be frozen later: what is new, tuples -/
def Fresh (H : Hp) (a : Addr) : Prop := H a = none ∨ ∃ vs, H a = some (.tup vs)
/-- it stands as it stood; more is frozen -/
theorem RelU.keep {F F' H H' : Hp} (s : Sub F F') (hF : ∀ a, F' a ≠ none → F a ≠ none ∨ Fresh H a) : ∀ {d : D} {v : V}, (∀ a o, v = .ref a → H a = some o → H' a = some o) → RelU cA ast F H d v → RelU cA ast F' H' d v
  | .lst ds, _, k, ⟨a, vs, e, h1, h2, r⟩ => ⟨a, vs, e, Classical.byContradiction fun q => (hF a q).elim (fun z => z h1) (fun z => by rcases z with z | ⟨_, z⟩ <;> rw [z] at h2 <;> cases h2), k _ _ e h2, r.mono s⟩
  | .ins _ _, _, k, ⟨a, dx, vs, e, h1, h2, l, r⟩ => ⟨a, dx, vs, e, Classical.byContradiction fun q => (hF a q).elim (fun z => z h1) (fun z => by rcases z with z | ⟨_, z⟩ <;> rw [z] at h2 <;> cases h2), k _ _ e h2, l, r.mono s⟩
  | .dic _t _ _, _, k, ⟨a, e, h1, h2⟩ => by
    have no : Fresh H a → False := fun z => by
      cases _t with
      | false => obtain ⟨_, h2, _⟩ := h2; rcases z with z | ⟨_, z⟩ <;> rw [z] at h2 <;> cases h2
      | true => obtain ⟨_, h2, _⟩ := h2; rcases z with z | ⟨_, z⟩ <;> rw [z] at h2 <;> cases h2
    exact ⟨a, e, Classical.byContradiction fun q => (hF a q).elim (fun z => z h1) no, DicAt.keep s (fun u hu => k a u e hu) h2⟩
  | .non, _, _, h => h.elim
  | .bl _, _, _, h => h.elim
  | .int _, _, _, h => h.elim
  | .str _, _, _, h => h.elim
  | .tup _, _, _, h => h.elim
  | .st, _, _, h => h.elim

/-! ### the frame's state -/
/-- what a body may do to what stood: F frozen, H tracked -/
structure Fx (ast : Addr) (F H F' H' : Hp) : Prop where
  fz : Sub F F'
  hk : ∀ a o, a ≠ ast → H a = some o → H' a = some o
  new : ∀ a, F' a ≠ none → F a ≠ none ∨ Fresh H a
theorem Fx.rfl' {F H : Hp} : Fx ast F H F H := ⟨Sub.rfl', fun _ _ _ h => h, fun _ h => .inl h⟩
theorem Fx.trans {F H F1 H1 F2 H2 : Hp} (a : Fx ast F H F1 H1) (b : Fx ast F1 H1 F2 H2) (hz : F2 ast = none) : Fx ast F H F2 H2 := by
  refine ⟨a.fz.trans b.fz, fun c o n h => b.hk c o n (a.hk c o n h), fun c h => ?_⟩
  have nc : c ≠ ast := fun e => by subst e; exact h hz
  rcases b.new c h with q | q
  · exact a.new c q
  · right
    cases e : H c with
    | none => exact .inl e
    | some o =>
      rcases q with q | ⟨vs, q⟩
      · rw [a.hk c o nc e] at q; cases q
      · rw [a.hk c o nc e] at q; cases q; exact .inr ⟨vs, e⟩

def isIns : D → Bool
  | .ins _ _ => true
  | _ => false
def SlotOk (cA : Nat → Addr) (ast : Addr) (H0 F H : Hp) (x : Option V) : SV → Prop
  | .no => True
  | .fr d => ∃ v, x = some v ∧ RelD cA ast F d v
  | .bor d => ∃ v, x = some v ∧ RelU cA ast F H d v ∧ ∀ a, v = .ref a → H0 a ≠ none ∧ a ≠ ast
  | .own d => ∃ v, x = some v ∧ RelU cA ast F H d v ∧ (∀ a, v = .ref a → H0 a = none ∧ a ≠ ast) ∧ (isIns d = true → ∃ a, v = .ref a ∧ H0 ast = some (.own a))
def isOwn : SV → Bool
  | .own _ => true
  | _ => false

/-- the state is held at ast, unfrozen -/
structure StOk (ast : Addr) (F H : Hp) (w : W) : Prop where
  sub : Sub F H
  fst : F ast = none
  hst : H ast = some (.lst [.int w.1, .int w.2])

def at_ (ξ : St) (i : Nat) : Option V := (ξ[i]?).getD none
structure SR (cA : Nat → Addr) (ast : Addr) (F0 H0 F : Hp) (ξ : St) (H : Hp) (env : List SV) (w : W) : Prop where
  fx : Fx ast F0 H0 F H
  so : StOk ast F H w
  slots : ∀ (i : Nat) s, env[i]? = some s → SlotOk cA ast H0 F H (at_ ξ i) s
  dist : ∀ (i j : Nat) d e v, i ≠ j → env[i]? = some (.own d) → env[j]? = some (.own e) → at_ ξ i = some v → at_ ξ j = some v → False
  len : env.length = ξ.length

end Ev

namespace Ev
open PySem L2
variable {cA : Nat → Addr} {ast : Addr} {F0 H0 F F' H H' : Hp} {ξ ξ' : St} {env env' : List SV} {w w' : W}

theorem at_some {ξ : St} {i : Nat} {v : V} (h : at_ ξ i = some v) : ξ[i]? = some (some v) := by
  unfold at_ at h
  cases e : ξ[i]? with
  | none => rw [e] at h; cases h
  | some x => rw [e] at h; simp at h; rw [h]
theorem at_of {ξ : St} {i : Nat} {x : Option V} (h : ξ[i]? = some x) : at_ ξ i = x := by unfold at_; rw [h]; rfl

/-- the heap grows, or a call came back -/
theorem SR.step (I : SR cA ast F0 H0 F ξ H env w) (x : Fx ast F H F' H') (so : StOk ast F' H' w') : SR cA ast F0 H0 F' ξ H' env w' := by
  refine ⟨I.fx.trans x so.fst, so, fun i s e => ?_, I.dist, I.len⟩
  have q := I.slots i s e
  cases s with
  | no => trivial
  | fr d => obtain ⟨v, e1, r⟩ := q; exact ⟨v, e1, r.mono x.fz⟩
  | bor d =>
    obtain ⟨v, e1, r, k⟩ := q
    exact ⟨v, e1, r.keep x.fz x.new fun a o e2 h => x.hk a o (k a e2).2 h, k⟩
  | own d =>
    obtain ⟨v, e1, r, k, m⟩ := q
    exact ⟨v, e1, r.keep x.fz x.new fun a o e2 h => x.hk a o (k a e2).2 h, k, m⟩
/-- a new frozen object -/
theorem SR.alloc (I : SR cA ast F0 H0 F ξ H env w) {p : Addr} {o : HO} (hp : H p = none) : SR cA ast F0 H0 (upd F p o) ξ (upd H p o) env w := by
  have fp : F p = none := I.so.sub.none hp
  have pa : p ≠ ast := fun e => by subst e; rw [I.so.hst] at hp; cases hp
  refine I.step ⟨Sub.upd fp, fun a u n h => Sub.upd hp a u h, fun a h => ?_⟩ ⟨fun a u h => ?_, by rw [upd_ne pa.symm]; exact I.so.fst, Sub.upd hp _ _ I.so.hst⟩
  · by_cases e : a = p
    · exact .inr (.inl (by rw [e]; exact hp))
    · rw [upd_ne e] at h; exact .inl h
  · by_cases e : a = p
    · subst e; rw [upd_same] at h ⊢; exact h
    · rw [upd_ne e] at h ⊢; exact I.so.sub _ _ h
/-- slots by other slots -/
theorem SR.re (I : SR cA ast F0 H0 F ξ H env w) (hl : env'.length = ξ'.length) (f : Nat → Nat)
    (h : ∀ (j : Nat) s, env'[j]? = some s → s = .no ∨ (env[f j]? = some s ∧ at_ ξ' j = at_ ξ (f j)) ∨ (∃ d v, s = .fr d ∧ at_ ξ' j = some v ∧ RelD cA ast F d v))
    (inj : ∀ (i j : Nat) d e, env'[i]? = some (.own d) → env'[j]? = some (.own e) → f i = f j → i = j) : SR cA ast F0 H0 F ξ' H env' w := by
  refine ⟨I.fx, I.so, fun j s e => ?_, fun i j d e v n h1 h2 a1 a2 => ?_, hl⟩
  · rcases h j s e with q | ⟨q, q2⟩ | ⟨d, v, q, q2, r⟩
    · subst q; trivial
    · rw [q2]; exact I.slots _ _ q
    · subst q; exact ⟨v, q2, r⟩
  · rcases h i _ h1 with q | ⟨q, q2⟩ | ⟨_, _, q, _⟩
    · cases q
    · rcases h j _ h2 with p | ⟨p, p2⟩ | ⟨_, _, p, _⟩
      · cases p
      · refine I.dist (f i) (f j) d e v (fun z => n (inj _ _ _ _ h1 h2 z)) q p (by rw [← q2]; exact a1) (by rw [← p2]; exact a2)
      · cases p
    · cases q
theorem SR.pop {x : Option V} {s : SV} (I : SR cA ast F0 H0 F (ξ ++ [x]) H (env ++ [s]) w) : SR cA ast F0 H0 F ξ H env w := by
  have hl : env.length = ξ.length := by have := I.len; simpa using this
  refine I.re hl id (fun j s e => .inr (.inl ?_)) fun i j _ _ _ _ e => e
  have hj : j < env.length := (List.getElem?_eq_some_iff.mp e).1
  refine ⟨by simp only [id]; rw [List.getElem?_append_left hj]; exact e, ?_⟩
  unfold at_
  simp only [id]
  rw [List.getElem?_append_left (by omega)]
/-- a new object of one's own, on top -/
theorem SR.push (I : SR cA ast F0 H0 F ξ H env w) {p : Addr} {o : HO} {d : D} (hp : H p = none) (r : RelU cA ast F (upd H p o) d (.ref p)) (hd : isIns d = false := by rfl) :
    SR cA ast F0 H0 F (ξ ++ [some (.ref p)]) (upd H p o) (env ++ [.own d]) w := by
  have fp : F p = none := I.so.sub.none hp
  have pa : p ≠ ast := fun e => by subst e; rw [I.so.hst] at hp; cases hp
  have J : SR cA ast F0 H0 F ξ (upd H p o) env w := by
    refine I.step ⟨Sub.rfl', fun a u n h => Sub.upd hp a u h, fun a h => .inl h⟩ ⟨fun a u h => Sub.upd hp _ _ (I.so.sub _ _ h), I.so.fst, Sub.upd hp _ _ I.so.hst⟩
  have h0 : H0 p = none := by
    cases e : H0 p with
    | none => rfl
    | some u => rw [I.fx.hk p u pa e] at hp; cases hp
  have hl := I.len
  have old : ∀ {j : Nat} {s}, (env ++ [SV.own d])[j]? = some s → (j < env.length ∧ env[j]? = some s ∧ at_ (ξ ++ [some (.ref p)]) j = at_ ξ j) ∨ (j = env.length ∧ s = .own d ∧ at_ (ξ ++ [some (.ref p)]) j = some (.ref p)) := by
    intro j s e
    by_cases hj : j < env.length
    · rw [List.getElem?_append_left hj] at e
      refine .inl ⟨hj, e, ?_⟩
      unfold at_
      rw [List.getElem?_append_left (by omega)]
    · have : j < (env ++ [SV.own d]).length := (List.getElem?_eq_some_iff.mp e).1
      have hj' : j = env.length := by simp at this; omega
      subst hj'
      simp at e
      refine .inr ⟨rfl, e.symm, ?_⟩
      unfold at_
      rw [hl]
      simp
  refine ⟨J.fx, J.so, fun j s e => ?_, fun i j a b v n h1 h2 a1 a2 => ?_, by simp [hl]⟩
  · rcases old e with ⟨_, e1, e2⟩ | ⟨_, e1, e2⟩
    · rw [e2]; exact J.slots _ _ e1
    · subst e1; rw [e2]; exact ⟨_, rfl, r, fun a ea => by cases ea; exact ⟨h0, pa⟩, fun z => by rw [hd] at z; cases z⟩
  · have no : ∀ {k : Nat} {c : D}, env[k]? = some (.own c) → at_ ξ k = some (.ref p) → False := fun {k c} e1 e2 => by
      obtain ⟨v', e3, r', _⟩ := I.slots _ _ e1
      rw [e2] at e3
      cases e3
      obtain ⟨a', o', ea, _, hh⟩ := r'.at
      cases ea
      rw [hp] at hh; cases hh
    rcases old h1 with ⟨l1, e1, e2⟩ | ⟨l1, e1, e2⟩ <;> rcases old h2 with ⟨k1, g1, g2⟩ | ⟨k1, g1, g2⟩
    · exact I.dist i j a b v n e1 g1 (e2 ▸ a1) (g2 ▸ a2)
    · rw [g2] at a2; cases a2; exact no e1 (e2 ▸ a1)
    · rw [e2] at a1; cases a1; exact no g1 (g2 ▸ a2)
    · exact n (l1.trans k1.symm)
/-- one's own list is frozen: at slot i -/
theorem SR.freeze (I : SR cA ast F0 H0 F ξ H env w) {i : Nat} {ds : List D} (h : env[i]? = some (.own (.lst ds))) :
    ∃ v F', at_ ξ i = some v ∧ SR cA ast F0 H0 F' ξ H (env.set i (.fr (.lst ds))) w ∧ Sub F F' ∧ RelD cA ast F' (.lst ds) v := by
  obtain ⟨v, e1, ⟨a, vs, ea, fa, ha, r⟩, k, _⟩ := I.slots _ _ h
  subst ea
  obtain ⟨h0, na⟩ := k a rfl
  have sb : Sub F (upd F a (.lst vs)) := Sub.upd fa
  have hi : i < env.length := (List.getElem?_eq_some_iff.mp h).1
  have rd : RelD cA ast (upd F a (.lst vs)) (.lst ds) (.ref a) := ⟨a, vs, rfl, upd_same, r.mono sb⟩
  refine ⟨_, upd F a (.lst vs), e1, ?_, sb, rd⟩
  have nw : ∀ b, upd F a (.lst vs) b ≠ none → F b ≠ none ∨ b = a := fun b hb => by
    by_cases e : b = a
    · exact .inr e
    · rw [upd_ne e] at hb; exact .inl hb
  refine ⟨⟨I.fx.fz.trans sb, I.fx.hk, fun b hb => (nw b hb).elim (I.fx.new b) fun e => .inr (.inl (e ▸ h0))⟩, ⟨fun b o hb => ?_, by rw [upd_ne na.symm]; exact I.so.fst, I.so.hst⟩, fun j s e => ?_, fun j j' d e v' n h1 h2 a1 a2 => ?_, by simp [I.len]⟩
  · by_cases e : b = a
    · subst e; rw [upd_same] at hb; cases hb; exact ha
    · rw [upd_ne e] at hb; exact I.so.sub _ _ hb
  · by_cases hj : j = i
    · subst hj
      rw [List.getElem?_set_self hi] at e
      cases e
      exact ⟨_, e1, rd⟩
    · rw [List.getElem?_set_ne (Ne.symm hj)] at e
      have q := I.slots j s e
      have keep : ∀ {d : D} {v : V}, RelU cA ast F H d v → v ≠ .ref a → RelU cA ast (upd F a (.lst vs)) H d v := fun {d v} r' nv => by
        obtain ⟨b, o, eb, fb, hb⟩ := r'.at
        have nb : b ≠ a := fun z => nv (by rw [eb, z])
        cases d with
        | lst es => obtain ⟨c, us, ec, f1, h1, r1⟩ := r'; rw [eb] at ec; cases ec; exact ⟨b, us, eb, by rw [upd_ne nb]; exact f1, h1, r1.mono sb⟩
        | ins cc es => obtain ⟨c, dx, us, ec, f1, h1, l1, r1⟩ := r'; rw [eb] at ec; cases ec; exact ⟨b, dx, us, eb, by rw [upd_ne nb]; exact f1, h1, l1, r1.mono sb⟩
        | dic t ks es => obtain ⟨c, ec, f1, h1⟩ := r'; rw [eb] at ec; cases ec; exact ⟨b, eb, by rw [upd_ne nb]; exact f1, DicAt.keep sb (fun _ z => z) h1⟩
        | _ => exact r'.elim
      cases s with
      | no => trivial
      | fr d => obtain ⟨v', e2, r'⟩ := q; exact ⟨v', e2, r'.mono sb⟩
      | bor d =>
        obtain ⟨v', e2, r', k'⟩ := q
        refine ⟨v', e2, keep r' fun z => ?_, k'⟩
        exact (k' a z).1 h0
      | own d =>
        obtain ⟨v', e2, r', k', m'⟩ := q
        refine ⟨v', e2, keep r' fun z => ?_, k', m'⟩
        subst z
        exact I.dist j i _ _ _ hj e h e2 e1
  · have un : ∀ {k : Nat} {d : D}, (env.set i (SV.fr (.lst ds)))[k]? = some (.own d) → env[k]? = some (.own d) := fun {k d} q => by
      by_cases hk : k = i
      · subst hk; rw [List.getElem?_set_self hi] at q; cases q
      · rw [List.getElem?_set_ne (Ne.symm hk)] at q; exact q
    exact I.dist j j' d e v' n (un h1) (un h2) a1 a2
/-- one's own object is written: at slot i -/
theorem SR.write (I : SR cA ast F0 H0 F ξ H env w) {i : Nat} {d d' : D} {a : Addr} {o : HO} (h : env[i]? = some (.own d)) (ha : at_ ξ i = some (.ref a)) (r : RelU cA ast F (upd H a o) d' (.ref a)) (hd : isIns d' = true → isIns d = true := by first | exact fun z => z | (intro z; cases z)) :
    SR cA ast F0 H0 F ξ (upd H a o) (env.set i (.own d')) w := by
  obtain ⟨v, e1, r0, k, m0⟩ := I.slots _ _ h
  rw [ha] at e1; cases e1
  obtain ⟨h0, na⟩ := k a rfl
  obtain ⟨a0, o', eb0, fa, hb0⟩ := r0.at
  obtain rfl : a = a0 := V.ref.inj eb0
  have hi : i < env.length := (List.getElem?_eq_some_iff.mp h).1
  have keep : ∀ {d : D} {v : V}, RelU cA ast F H d v → v ≠ .ref a → RelU cA ast F (upd H a o) d v := fun {d v} r' nv => by
    refine r'.keep Sub.rfl' (fun _ h => .inl h) fun b u eb hb => ?_
    have nb : b ≠ a := fun z => nv (by rw [eb, z])
    rw [upd_ne nb]; exact hb
  refine ⟨⟨I.fx.fz, fun b u n hb => ?_, fun b hb => I.fx.new b hb⟩, ⟨fun b u hb => ?_, I.so.fst, by rw [upd_ne na.symm]; exact I.so.hst⟩, fun j s e => ?_, fun j j' c e v' n h1 h2 a1 a2 => ?_, by simp [I.len]⟩
  · have nb : b ≠ a := fun z => by subst z; rw [h0] at hb; cases hb
    rw [upd_ne nb]; exact I.fx.hk b u n hb
  · have nb : b ≠ a := fun z => by subst z; rw [fa] at hb; cases hb
    rw [upd_ne nb]; exact I.so.sub b u hb
  · by_cases hj : j = i
    · subst hj
      rw [List.getElem?_set_self hi] at e
      cases e
      exact ⟨_, ha, r, fun b eb => by cases eb; exact ⟨h0, na⟩, fun z => m0 (hd z)⟩
    · rw [List.getElem?_set_ne (Ne.symm hj)] at e
      have q := I.slots j s e
      cases s with
      | no => trivial
      | fr c => exact q
      | bor c =>
        obtain ⟨v', e2, r', k'⟩ := q
        exact ⟨v', e2, keep r' fun z => (k' a z).1 h0, k'⟩
      | own c =>
        obtain ⟨v', e2, r', k', m'⟩ := q
        refine ⟨v', e2, keep r' fun z => ?_, k', m'⟩
        subst z
        exact I.dist j i _ _ _ hj e h e2 ha
  · have un : ∀ {k : Nat} {c : D}, (env.set i (SV.own d'))[k]? = some (.own c) → ∃ c', env[k]? = some (.own c') := fun {k c} q => by
      by_cases hk : k = i
      · subst hk; exact ⟨_, h⟩
      · rw [List.getElem?_set_ne (Ne.symm hk)] at q; exact ⟨_, q⟩
    obtain ⟨c1, g1⟩ := un h1
    obtain ⟨c2, g2⟩ := un h2
    exact I.dist j j' _ _ v' n g1 g2 a1 a2
/-- the state is written -/
theorem SR.wrSt (I : SR cA ast F0 H0 F ξ H env w) : SR cA ast F0 H0 F ξ (upd H ast (.lst [.int w'.1, .int w'.2])) env w' := by
  refine I.step ⟨Sub.rfl', fun a u n h => by rw [upd_ne n]; exact h, fun a h => .inl h⟩ ⟨fun a u h => ?_, I.so.fst, upd_same⟩
  have n : a ≠ ast := fun e => by subst e; rw [I.so.fst] at h; cases h
  rw [upd_ne n]; exact I.so.sub a u h
end Ev

namespace Ev
open PySem L2

abbrev Env := List SV
/-- an evaluation: a value, the slots, the state -/
abbrev TEv := Env → W → Option (D × Env × W)
abbrev TBv := Env → W → Option (Bool × Env × W)
abbrev TLv := Env → W → Option (List D × Env × W)

section rd
variable (cA : Nat → Addr)
def rdG {α β : Type} (rel : Addr → Hp → Hp → St → Env → α → β → Prop) (t : Env → W → Option (α × Env × W)) : St → Hp → (β → Hp → Prop) → Prop := fun σ H Q =>
  ∃ ast F0 H0 F τ env w d env' w', SR cA ast F0 H0 F (σ ++ τ) H env w ∧ t env w = some (d, env', w') ∧
    ∀ F' H' v, SR cA ast F0 H0 F' (σ ++ τ) H' env' w' → Sub F F' → rel ast F' H' (σ ++ τ) env' d v → Q v H'
def rdE (t : TEv) : TE := rdG cA (fun ast F _ _ _ d v => RelD cA ast F d v) t
def rdA (t : Env → W → Option (List D × Env × W)) : TA := rdG cA (fun ast F _ _ _ ds vs => RelDs cA ast F ds vs) t
def rdT (t : Env → W → Option (Bool × Env × W)) : TT := rdG cA (fun _ _ _ _ _ d b => b = d) t
/-- a new object of one's own, on top -/
def rdN (t : TEv) : TE := fun σ H Q =>
  ∃ ast F0 H0 F τ env w d env' w', SR cA ast F0 H0 F (σ ++ τ) H env w ∧ t env w = some (d, env', w') ∧
    ∀ F' H' v, SR cA ast F0 H0 F' (σ ++ τ ++ [some v]) H' (env' ++ [.own d]) w' → Sub F F' → Q v H'
end rd

theorem PE.imp {X : Cx} {e : Expr} {t t' : TE} (h : PE X e t) (i : ∀ σ H Q, t' σ H Q → t σ H Q) : PE X e t' := ⟨fun p s σ H Q I q => h.run p s σ H Q I (i _ _ _ q)⟩
theorem PT.imp {X : Cx} {e : Expr} {t t' : TT} (h : PT X e t) (i : ∀ σ H Q, t' σ H Q → t σ H Q) : PT X e t' := ⟨fun p s σ H Q I q => h.run p s σ H Q I (i _ _ _ q)⟩
theorem PW.imp {X : Cx} {e : Expr} {t t' : TT} (h : PW X e t) (i : ∀ σ H Q, t' σ H Q → t σ H Q) : PW X e t' := ⟨fun wh p s σ H Q I q => h.run wh p s σ H Q I (i _ _ _ q)⟩
theorem PA.imp {X : Cx} {e : List Expr} {t t' : TA} (h : PA X e t) (i : ∀ σ H Q, t' σ H Q → t σ H Q) : PA X e t' := ⟨fun ps p s σ H Q I q => h.run ps p s σ H Q I (i _ _ _ q)⟩
theorem PS.imp {X : Cx} {e : Stmt} {t t' : TS} (h : PS X e t) (i : ∀ D σ H, t' D σ H → t D σ H) : PS X e t' := ⟨fun p s σ H D I q => h.run p s σ H D I (i _ _ _ q)⟩
theorem PSs.imp {X : Cx} {e : List Stmt} {t t' : TS} (h : PSs X e t) (i : ∀ D σ H, t' D σ H → t D σ H) : PSs X e t' := ⟨fun p s σ H D I q => h.run p s σ H D I (i _ _ _ q)⟩

variable {cA : Nat → Addr} {X : Cx} {a b c e : Expr} {ta tb tc te : TEv} {pos : Pos}

/-- from the other side: what is wanted, given by an answer -/
theorem rdG_mk {α β : Type} {rel : Addr → Hp → Hp → St → Env → α → β → Prop} {t : Env → W → Option (α × Env × W)} {σ : St} {H : Hp} {Q : β → Hp → Prop} {ast F0 H0 F τ env w d env' w'}
    (I : SR cA ast F0 H0 F (σ ++ τ) H env w) (e : t env w = some (d, env', w'))
    (k : ∀ F' H' v, SR cA ast F0 H0 F' (σ ++ τ) H' env' w' → Sub F F' → rel ast F' H' (σ ++ τ) env' d v → Q v H') : rdG cA rel t σ H Q := ⟨ast, F0, H0, F, τ, env, w, d, env', w', I, e, k⟩

theorem rdE_mk {t : TEv} {σ : St} {H : Hp} {Q : VK} {ast F0 H0 F τ env w d env' w'} (I : SR cA ast F0 H0 F (σ ++ τ) H env w) (e : t env w = some (d, env', w'))
    (k : ∀ F' H' v, SR cA ast F0 H0 F' (σ ++ τ) H' env' w' → Sub F F' → RelD cA ast F' d v → Q v H') : rdE cA t σ H Q := ⟨ast, F0, H0, F, τ, env, w, d, env', w', I, e, k⟩
theorem rdA_mk {t : TLv} {σ : St} {H : Hp} {Q : List V → Hp → Prop} {ast F0 H0 F τ env w d env' w'} (I : SR cA ast F0 H0 F (σ ++ τ) H env w) (e : t env w = some (d, env', w'))
    (k : ∀ F' H' v, SR cA ast F0 H0 F' (σ ++ τ) H' env' w' → Sub F F' → RelDs cA ast F' d v → Q v H') : rdA cA t σ H Q := ⟨ast, F0, H0, F, τ, env, w, d, env', w', I, e, k⟩
theorem rdT_mk {t : TBv} {σ : St} {H : Hp} {Q : Bool → Hp → Prop} {ast F0 H0 F τ env w d env' w'} (I : SR cA ast F0 H0 F (σ ++ τ) H env w) (e : t env w = some (d, env', w'))
    (k : ∀ F' H', SR cA ast F0 H0 F' (σ ++ τ) H' env' w' → Sub F F' → Q d H') : rdT cA t σ H Q := ⟨ast, F0, H0, F, τ, env, w, d, env', w', I, e, fun F' H' v I s r => by cases r; exact k F' H' I s⟩

/-! ### lists by place, for the kernel -/
def ix {α : Type} : List α → Nat → Option α
  | [], _ => none
  | x :: _, 0 => some x
  | _ :: l, n + 1 => ix l n
theorem ix_eq {α : Type} : ∀ (l : List α) (n : Nat), ix l n = l[n]?
  | [], n => by cases n <;> simp [ix]
  | x :: l, 0 => by simp [ix]
  | x :: l, n + 1 => by simp [ix, ix_eq l n]

/-! ### constants, names -/
def evC (d : D) : TEv := fun env w => some (d, env, w)
theorem rd_C {d : D} {v : V} (r : ∀ ast F, RelD cA ast F d v) : ∀ σ H Q, rdE cA (evC d) σ H Q → tC v σ H Q := fun σ H Q ⟨ast, F0, H0, F, τ, env, w, d', env', w', I, e, k⟩ => by
  cases e
  exact k F H v I Sub.rfl' (r ast F)
theorem pE_int {i j pos} : PE X (.Constant (.int i) j pos) (rdE cA (evC (.int i))) := PE.imp pe_int (rd_C fun _ _ => rfl)
theorem pE_bl {i j pos} : PE X (.Constant (.bool i) j pos) (rdE cA (evC (.bl i))) := PE.imp pe_bl (rd_C fun _ _ => rfl)
theorem pE_non {j pos} : PE X (.Constant .none j pos) (rdE cA (evC .non)) := PE.imp pe_non (rd_C fun _ _ => rfl)
theorem pE_str {x j pos} : PE X (.Constant (.str x) j pos) (rdE cA (evC (.str x))) := PE.imp pe_str (rd_C fun _ _ => rfl)
theorem pE_glob {x : Str} {v : V} {u : Value} {d : D} {pos : Pos} (hg : Gl X x) (hm : X.mg x = some u) (r : RelV v u) (rd : ∀ ast F, RelD cA ast F d v) (hd : (x == ("__debug__" : Str)) = false := by decide) : PE X (.Name x pos) (rdE cA (evC d)) :=
  PE.imp (pe_glob hg hm r hd) (rd_C rd)

/-- a name's value; one's own list is frozen by it -/
def evVar (i : Nat) : TEv := fun env w => match ix env i with
  | some (.fr d) => some (d, env, w)
  | some (.own (.lst ds)) => some (.lst ds, env.set i (.fr (.lst ds)), w)
  | _ => none
theorem at_left {σ τ : St} {i : Nat} {v : V} (h : at_ (σ ++ τ) i = some v) (hi : i < σ.length) : σ[i]? = some (some v) := by
  have h1 := at_some h
  rwa [List.getElem?_append_left hi] at h1
theorem rd_var {i n : Nat} (hσ : ∀ σ : St, σ.length = n → i < σ.length) : ∀ σ H Q, σ.length = n → rdE cA (evVar i) σ H Q → tVar i σ H Q := fun σ H Q hn ⟨ast, F0, H0, F, τ, env, w, d, env', w', I, e, k⟩ => by
  have hi := hσ σ hn
  unfold evVar at e
  rw [ix_eq] at e
  split at e
  · rename_i d' e1
    cases e
    obtain ⟨v, e2, r⟩ := I.slots _ _ e1
    exact ⟨v, at_left e2 hi, k F H v I Sub.rfl' r⟩
  · rename_i ds e1
    cases e
    obtain ⟨v, F', e2, J, sb, r⟩ := I.freeze e1
    exact ⟨v, at_left e2 hi, k F' H v J sb r⟩
  · cases e
theorem pE_var {i : Nat} {x : Str} {pos : Pos} (h : PE X (.Name x pos) (tVar i)) (hi : i < X.N.length) : PE X (.Name x pos) (rdE cA (evVar i)) :=
  ⟨fun p s σ H Q I q => h.run p s σ H Q I (rd_var (cA := cA) (n := X.N.length) (fun σ e => e ▸ hi) σ H Q I.len q)⟩

/-! ### two places -/
def evBin (f : D → D → Option D) (ta tb : TEv) : TEv := fun env w => match ta env w with
  | some (x, env, w) => match tb env w with
    | some (y, env, w) => match f x y with
      | some d => some (d, env, w)
      | none => none
    | none => none
  | none => none
/-- f is an operation whose rule is r -/
def Op2 (cA : Nat → Addr) (r : R2) (f : D → D → Option D) : Prop :=
  ∀ ast F0 H0 F ξ H env w dx dy d x y (Q : VK), SR cA ast F0 H0 F ξ H env w → RelD cA ast F dx x → RelD cA ast F dy y → f dx dy = some d →
    (∀ F' H' v, SR cA ast F0 H0 F' ξ H' env w → Sub F F' → RelD cA ast F' d v → Q v H') → r x y H Q
theorem evBin_some {f : D → D → Option D} {env : Env} {w : W} {d : D} {env' : Env} {w' : W} (e : evBin f ta tb env w = some (d, env', w')) :
    ∃ x env1 w1 y, ta env w = some (x, env1, w1) ∧ tb env1 w1 = some (y, env', w') ∧ f x y = some d := by
  unfold evBin at e
  split at e
  · rename_i x env1 w1 e1
    split at e
    · rename_i y env2 w2 e2
      split at e
      · rename_i d' e3
        cases e
        exact ⟨_, _, _, _, e1, e2, e3⟩
      · cases e
    · cases e
  · cases e
theorem rd_bin {r : R2} {f : D → D → Option D} (hf : Op2 cA r f) : ∀ σ H Q, rdE cA (evBin f ta tb) σ H Q → tOp r (rdE cA ta) (rdE cA tb) σ H Q := fun σ H Q ⟨ast, F0, H0, F, τ, env, w, d, env', w', I, e, k⟩ => by
  obtain ⟨x, env1, w1, y, e1, e2, e3⟩ := evBin_some e
  exact rdE_mk I e1 fun F1 H1 v1 I1 s1 r1 => rdE_mk I1 e2 fun F2 H2 v2 I2 s2 r2 =>
    hf ast F0 H0 F2 _ H2 env' w' x y d v1 v2 Q I2 (RelD.mono s2 _ _ r1) r2 e3 fun F3 H3 v3 I3 s3 r3 => k F3 H3 v3 I3 (s1.trans (s2.trans s3)) r3
theorem pE_bin {op : Operator} {r : R2} {f : D → D → Option D} (ho : OpR X (binaryOp op) r) (hf : Op2 cA r f) (ha : PE X a (rdE cA ta)) (hb : PE X b (rdE cA tb)) : PE X (.BinOp a op b pos) (rdE cA (evBin f ta tb)) :=
  PE.imp (pe_op ho ha hb) (rd_bin hf)
theorem pE_cmp {op : CmpOp} {r : R2} {f : D → D → Option D} (ho : OpR X (compareOp op) r) (hf : Op2 cA r f) (ha : PE X a (rdE cA ta)) (hb : PE X b (rdE cA tb)) (hm : behindInMarks op b = false) : PE X (.Compare a [op] [b] pos) (rdE cA (evBin f ta tb)) :=
  PE.imp (pe_cmpR ho ha hb hm) (rd_bin hf)
/-! ### tests -/
def evT (t : TEv) : TBv := fun env w => match t env w with
  | some (.bl b, env, w) => some (b, env, w)
  | _ => none
theorem evT_some {t : TEv} {env : Env} {w : W} {b : Bool} {env' : Env} {w' : W} (e : evT t env w = some (b, env', w')) : t env w = some (.bl b, env', w') := by
  unfold evT at e
  split at e
  · rename_i b1 env1 w1 e1
    cases e
    exact e1
  · cases e
theorem rd_test {t : TEv} {σ : St} {H : Hp} {Q : Bool → Hp → Prop} (q : rdT cA (evT t) σ H Q) : rdE cA t σ H (fun x H' => ∃ k, x = .bl k ∧ Q k H') := by
  obtain ⟨ast, F0, H0, F, τ, env, w, d, env', w', I, e, k⟩ := q
  exact rdE_mk I (evT_some e) fun F1 H1 v1 I1 s1 r1 => ⟨d, r1, k F1 H1 d I1 s1 rfl⟩
theorem pT_cmp {op : CmpOp} {r : R2} {f : D → D → Option D} (ho : OpR X (compareOp op) r) (hf : Op2 cA r f) (ha : PE X a (rdE cA ta)) (hb : PE X b (rdE cA tb)) (hm : behindInMarks op b = false) : PT X (.Compare a [op] [b] pos) (rdT cA (evT (evBin f ta tb))) :=
  PT.imp (pt_cmpR ho ha hb hm) fun σ H Q q => rd_bin hf _ _ _ (rd_test q)
theorem pT_val {t : TEv} (h : PE X e (rdE cA t)) (he : ∀ whole, isTrue e X.env whole = (do let v ← whole; standAt e.pos; holding [v] (truthy v)) := by intro _; rfl) : PT X e (rdT cA (evT t)) :=
  PT.imp (pt_val h he) fun σ H Q q => rd_test q
/-- not -/
def evNot (t : TBv) : TBv := fun env w => match t env w with
  | some (b, env, w) => some (!b, env, w)
  | none => none
theorem pT_not {t : TBv} (h : PT X a (rdT cA t)) : PT X (.UnaryOp .Not a pos) (rdT cA (evNot t)) :=
  PT.imp (pt_not h) fun σ H Q ⟨ast, F0, H0, F, τ, env, w, d, env', w', I, e, k⟩ => by
    unfold evNot at e
    split at e
    · rename_i b1 env1 w1 e1
      cases e
      exact rdT_mk I e1 fun F1 H1 I1 s1 => k F1 H1 _ I1 s1 rfl
    · cases e
def evB (t : TBv) : TEv := fun env w => match t env w with
  | some (b, env, w) => some (.bl b, env, w)
  | none => none
theorem evB_some {t : TBv} {env : Env} {w : W} {d : D} {env' : Env} {w' : W} (e : evB t env w = some (d, env', w')) : ∃ b, d = .bl b ∧ t env w = some (b, env', w') := by
  unfold evB at e
  split at e
  · rename_i b1 env1 w1 e1
    cases e
    exact ⟨_, rfl, e1⟩
  · cases e
theorem evB_T {t : TBv} : evT (evB t) = t := by
  funext env w
  unfold evT evB
  cases h : t env w with
  | none => rfl
  | some p => obtain ⟨b, e, w⟩ := p; rfl
/-- not, as a value -/
theorem pE_not {t : TEv} (h : PE X a (rdE cA t)) : PE X (.UnaryOp .Not a pos) (rdE cA (evB (evNot (evT t)))) :=
  PE.imp (pe_not h) fun σ H Q ⟨ast, F0, H0, F, τ, env, w, d, env', w', I, e, k⟩ => by
    obtain ⟨b, rfl, e1⟩ := evB_some e
    unfold evNot at e1
    split at e1
    · rename_i b1 env1 w1 e2
      cases e1
      exact rdE_mk I (evT_some e2) fun F1 H1 v1 I1 s1 r1 => ⟨b1, r1, k F1 H1 _ I1 s1 rfl⟩
    · cases e1
def evAnd (ta tb : TBv) : TBv := fun env w => match ta env w with
  | some (true, env, w) => tb env w
  | r => r
def evOr (ta tb : TBv) : TBv := fun env w => match ta env w with
  | some (false, env, w) => tb env w
  | r => r
theorem evAnd_some {ta tb : TBv} {env : Env} {w : W} {d : Bool} {env' : Env} {w' : W} (e : evAnd ta tb env w = some (d, env', w')) :
    (∃ env1 w1, ta env w = some (true, env1, w1) ∧ tb env1 w1 = some (d, env', w')) ∨ (ta env w = some (false, env', w') ∧ d = false) := by
  unfold evAnd at e
  split at e
  · rename_i env1 w1 e1; exact .inl ⟨_, _, e1, e⟩
  · rename_i n
    cases d with
    | false => exact .inr ⟨e, rfl⟩
    | true => exact absurd e (n _ _)
theorem evOr_some {ta tb : TBv} {env : Env} {w : W} {d : Bool} {env' : Env} {w' : W} (e : evOr ta tb env w = some (d, env', w')) :
    (∃ env1 w1, ta env w = some (false, env1, w1) ∧ tb env1 w1 = some (d, env', w')) ∨ (ta env w = some (true, env', w') ∧ d = true) := by
  unfold evOr at e
  split at e
  · rename_i env1 w1 e1; exact .inl ⟨_, _, e1, e⟩
  · rename_i n
    cases d with
    | true => exact .inr ⟨e, rfl⟩
    | false => exact absurd e (n _ _)
variable {rest : List Expr}
theorem pW_and1 {t : TBv} (ha : PT X a (rdT cA t)) : PW X (.BoolOp .And [a] pos) (rdT cA t) := pw_and1 ha
theorem pW_or1 {t : TBv} (ha : PT X a (rdT cA t)) : PW X (.BoolOp .Or [a] pos) (rdT cA t) := pw_or1 ha
theorem pW_and {ta tb : TBv} (ha : PT X a (rdT cA ta)) (hb : PW X (.BoolOp .And (b :: rest) pos) (rdT cA tb)) : PW X (.BoolOp .And (a :: b :: rest) pos) (rdT cA (evAnd ta tb)) :=
  PW.imp (pw_and ha hb) fun σ H Q ⟨ast, F0, H0, F, τ, env, w, d, env', w', I, e, k⟩ => by
    rcases evAnd_some e with ⟨env1, w1, e1, e2⟩ | ⟨e1, ed⟩
    · exact rdT_mk I e1 fun F1 H1 I1 s1 => iteT (rdT_mk I1 e2 fun F2 H2 I2 s2 => k F2 H2 _ I2 (s1.trans s2) rfl)
    · subst ed
      exact rdT_mk I e1 fun F1 H1 I1 s1 => iteF (k F1 H1 _ I1 s1 rfl)
theorem pW_or {ta tb : TBv} (ha : PT X a (rdT cA ta)) (hb : PW X (.BoolOp .Or (b :: rest) pos) (rdT cA tb)) : PW X (.BoolOp .Or (a :: b :: rest) pos) (rdT cA (evOr ta tb)) :=
  PW.imp (pw_or ha hb) fun σ H Q ⟨ast, F0, H0, F, τ, env, w, d, env', w', I, e, k⟩ => by
    rcases evOr_some e with ⟨env1, w1, e1, e2⟩ | ⟨e1, ed⟩
    · exact rdT_mk I e1 fun F1 H1 I1 s1 => iteF (rdT_mk I1 e2 fun F2 H2 I2 s2 => k F2 H2 _ I2 (s1.trans s2) rfl)
    · subst ed
      exact rdT_mk I e1 fun F1 H1 I1 s1 => iteT (k F1 H1 _ I1 s1 rfl)
/-- and, or as values: all but the last are bools -/
def evAndV (ta tb : TEv) : TEv := fun env w => match ta env w with
  | some (.bl true, env, w) => tb env w
  | some (.bl false, env, w) => some (.bl false, env, w)
  | _ => none
def evOrV (ta tb : TEv) : TEv := fun env w => match ta env w with
  | some (.bl false, env, w) => tb env w
  | some (.bl true, env, w) => some (.bl true, env, w)
  | _ => none
theorem pE_one {op} {t : TEv} (h : PE X a (rdE cA t)) : PE X (.BoolOp op [a] pos) (rdE cA t) := pe_one h
theorem pE_and (ha : PE X a (rdE cA ta)) (hb : PE X (.BoolOp .And (b :: rest) pos) (rdE cA tb)) : PE X (.BoolOp .And (a :: b :: rest) pos) (rdE cA (evAndV ta tb)) :=
  PE.imp (pe_and ha hb) fun σ H Q ⟨ast, F0, H0, F, τ, env, w, d, env', w', I, e, k⟩ => by
    unfold evAndV at e
    split at e
    · rename_i env1 w1 e1
      exact rdE_mk I e1 fun F1 H1 v1 I1 s1 r1 => ⟨true, r1, iteT (rdE_mk I1 e fun F2 H2 v2 I2 s2 r2 => k F2 H2 v2 I2 (s1.trans s2) r2)⟩
    · rename_i env1 w1 e1
      cases e
      exact rdE_mk I e1 fun F1 H1 v1 I1 s1 r1 => ⟨false, r1, iteF (k F1 H1 _ I1 s1 rfl)⟩
    · cases e
theorem pE_or (ha : PE X a (rdE cA ta)) (hb : PE X (.BoolOp .Or (b :: rest) pos) (rdE cA tb)) : PE X (.BoolOp .Or (a :: b :: rest) pos) (rdE cA (evOrV ta tb)) :=
  PE.imp (pe_or ha hb) fun σ H Q ⟨ast, F0, H0, F, τ, env, w, d, env', w', I, e, k⟩ => by
    unfold evOrV at e
    split at e
    · rename_i env1 w1 e1
      exact rdE_mk I e1 fun F1 H1 v1 I1 s1 r1 => ⟨false, r1, iteF (rdE_mk I1 e fun F2 H2 v2 I2 s2 r2 => k F2 H2 v2 I2 (s1.trans s2) r2)⟩
    · rename_i env1 w1 e1
      cases e
      exact rdE_mk I e1 fun F1 H1 v1 I1 s1 r1 => ⟨true, r1, iteT (k F1 H1 _ I1 s1 rfl)⟩
    · cases e
/-- a if t else b -/
def evIf (t : TBv) (ta tb : TEv) : TEv := fun env w => match t env w with
  | some (true, env, w) => ta env w
  | some (false, env, w) => tb env w
  | none => none
theorem pE_if {t : TBv} (hc : PT X c (rdT cA t)) (ha : PE X a (rdE cA ta)) (hb : PE X b (rdE cA tb)) : PE X (.IfExp c a b pos) (rdE cA (evIf t ta tb)) :=
  PE.imp (pe_ifExp hc ha hb) fun σ H Q ⟨ast, F0, H0, F, τ, env, w, d, env', w', I, e, k⟩ => by
    unfold evIf at e
    split at e
    · rename_i env1 w1 e1
      exact rdT_mk I e1 fun F1 H1 I1 s1 => iteT (rdE_mk I1 e fun F2 H2 v2 I2 s2 r2 => k F2 H2 v2 I2 (s1.trans s2) r2)
    · rename_i env1 w1 e1
      exact rdT_mk I e1 fun F1 H1 I1 s1 => iteF (rdE_mk I1 e fun F2 H2 v2 I2 s2 r2 => k F2 H2 v2 I2 (s1.trans s2) r2)
    · cases e
/-! ### arguments, displays -/
def evNil : TLv := fun env w => some ([], env, w)
def evCons (ta : TEv) (tr : TLv) : TLv := fun env w => match ta env w with
  | some (x, env, w) => match tr env w with
    | some (xs, env, w) => some (x :: xs, env, w)
    | none => none
  | none => none
theorem evCons_some {tr : TLv} {env : Env} {w : W} {ds : List D} {env' : Env} {w' : W} (e : evCons ta tr env w = some (ds, env', w')) :
    ∃ x xs env1 w1, ta env w = some (x, env1, w1) ∧ tr env1 w1 = some (xs, env', w') ∧ ds = x :: xs := by
  unfold evCons at e
  split at e
  · rename_i x env1 w1 e1
    split at e
    · rename_i xs env2 w2 e2
      cases e
      exact ⟨_, _, _, _, e1, e2, rfl⟩
    · cases e
  · cases e
theorem pA_nil : PA X [] (rdA cA evNil) := PA.imp pa_nil fun σ H Q ⟨ast, F0, H0, F, τ, env, w, d, env', w', I, e, k⟩ => by
  cases e
  exact k F H [] I Sub.rfl' rfl
theorem pA_cons {es : List Expr} {tr : TLv} (ha : PE X e (rdE cA ta)) (hr : PA X es (rdA cA tr)) (hs : starEach (e :: es) X.env = (false, eval e X.env) :: starEach es X.env := by rfl) : PA X (e :: es) (rdA cA (evCons ta tr)) :=
  PA.imp (pa_cons ha hr hs) fun σ H Q ⟨ast, F0, H0, F, τ, env, w, d, env', w', I, e, k⟩ => by
    obtain ⟨x, xs, env1, w1, e1, e2, e3⟩ := evCons_some e
    subst e3
    exact rdE_mk I e1 fun F1 H1 v1 I1 s1 r1 => rdA_mk I1 e2 fun F2 H2 v2 I2 s2 r2 => k F2 H2 _ I2 (s1.trans s2) (RelDs.cons (RelD.mono s2 _ _ r1) r2)
/-- small lists -/
def few (n : Nat) : Bool := Nat.ble n 4000
theorem few_line {n : Nat} (h : few n = true) : n ≤ sizeLine := Nat.le_trans (Nat.le_of_ble_eq_true h) (by decide)
theorem few_lt {n : Nat} (h : few n = true) : n < sizeLine := Nat.lt_of_le_of_lt (Nat.le_of_ble_eq_true h) (by decide)
def evTup (t : TLv) : TEv := fun env w => match t env w with
  | some (xs, env, w) => some (.tup xs, env, w)
  | none => none
def evLst (t : TLv) : TEv := fun env w => match t env w with
  | some (xs, env, w) => some (.lst xs, env, w)
  | none => none
theorem pE_tup {es : List Expr} {x1} {t : TLv} (h : PA X es (rdA cA t)) (hl : few es.length = true) (hn : ∀ env w ds env' w', t env w = some (ds, env', w') → ds.length = es.length) : PE X (.Tuple es x1 pos) (rdE cA (evTup t)) :=
  PE.imp (pe_tup h) fun σ H Q ⟨ast, F0, H0, F, τ, env, w, d, env', w', I, e, k⟩ => by
    unfold evTup at e
    split at e
    · rename_i xs env1 w1 e1
      cases e
      refine rdA_mk I e1 fun F1 H1 vs I1 s1 r1 => ⟨by rw [← r1.length, hn _ _ _ _ _ e1]; exact few_line hl, fun p hp => ?_⟩
      have sb := Sub.upd (F := F1) (p := p) (o := .tup vs) (I1.so.sub.none hp)
      exact k _ _ _ (I1.alloc hp) (s1.trans sb) ⟨p, vs, rfl, upd_same, r1.mono sb⟩
    · cases e
theorem pE_lst {es : List Expr} {t : TLv} (h : PA X es (rdA cA t)) (hl : few es.length = true) (hn : ∀ env w ds env' w', t env w = some (ds, env', w') → ds.length = es.length) : PE X (.List es pos) (rdE cA (evLst t)) :=
  PE.imp (pe_lst h) fun σ H Q ⟨ast, F0, H0, F, τ, env, w, d, env', w', I, e, k⟩ => by
    unfold evLst at e
    split at e
    · rename_i xs env1 w1 e1
      cases e
      refine rdA_mk I e1 fun F1 H1 vs I1 s1 r1 => ⟨by rw [← r1.length, hn _ _ _ _ _ e1]; exact few_line hl, fun p hp => ?_⟩
      have sb := Sub.upd (F := F1) (p := p) (o := .lst vs) (I1.so.sub.none hp)
      exact k _ _ _ (I1.alloc hp) (s1.trans sb) ⟨p, vs, rfl, upd_same, r1.mono sb⟩
    · cases e
/-- .. as a new list of one's own -/
theorem pN_lst {es : List Expr} {t : TLv} (h : PA X es (rdA cA t)) (hl : few es.length = true) (hn : ∀ env w ds env' w', t env w = some (ds, env', w') → ds.length = es.length) : PE X (.List es pos) (rdN cA (evLst t)) :=
  PE.imp (pe_lst h) fun σ H Q ⟨ast, F0, H0, F, τ, env, w, d, env', w', I, e, k⟩ => by
    unfold evLst at e
    split at e
    · rename_i xs env1 w1 e1
      cases e
      refine rdA_mk I e1 fun F1 H1 vs I1 s1 r1 => ⟨by rw [← r1.length, hn _ _ _ _ _ e1]; exact few_line hl, fun p hp => ?_⟩
      exact k _ _ _ (I1.push hp ⟨p, vs, rfl, I1.so.sub.none hp, upd_same, r1⟩) s1
    · cases e
end Ev

namespace Ev
open PySem L2
variable {cA : Nat → Addr} {X : Cx} {a b c e : Expr} {ta tb tc te : TEv} {pos : Pos} {K : PySem.W.Frag}

/-! ### operations -/
theorem op2_or {r r' : R2} {f g : D → D → Option D} (h : Op2 cA r f) (h' : Op2 cA r' g) : Op2 cA (fun x y H Q => r x y H Q ∨ r' x y H Q) (fun x y => match f x y with | some d => some d | none => g x y) :=
  fun ast F0 H0 F ξ H env w dx dy d x y Q I rx ry e k => by
    cases q : f dx dy with
    | some d1 => simp only [q] at e; cases e; exact .inl (h ast F0 H0 F ξ H env w dx dy _ x y Q I rx ry q k)
    | none => simp only [q] at e; exact .inr (h' ast F0 H0 F ξ H env w dx dy d x y Q I rx ry e k)
theorem op2_int0 {g : Int → Int → V} {f : D → D → Option D} (h : ∀ dx dy d, f dx dy = some d → ∃ i j, dx = .int i ∧ dy = .int j ∧ ∀ ast F, RelD cA ast F d (g i j)) : Op2 cA (rI0 g) f :=
  fun ast F0 H0 F ξ H env w dx dy d x y Q I rx ry e k => by
    obtain ⟨i, j, rfl, rfl, r⟩ := h _ _ _ e
    exact ⟨i, j, rx, ry, k F H _ I Sub.rfl' (r _ _)⟩
theorem op2_int {C : Int → Int → Prop} {g : Int → Int → V} {f : D → D → Option D} (h : ∀ dx dy d, f dx dy = some d → ∃ i j, dx = .int i ∧ dy = .int j ∧ C i j ∧ ∀ ast F, RelD cA ast F d (g i j)) : Op2 cA (rI C g) f :=
  fun ast F0 H0 F ξ H env w dx dy d x y Q I rx ry e k => by
    obtain ⟨i, j, rfl, rfl, hc, r⟩ := h _ _ _ e
    exact ⟨i, j, rx, ry, hc, k F H _ I Sub.rfl' (r _ _)⟩

def fSub : D → D → Option D
  | .int i, .int j => some (.int (i - j))
  | _, _ => none
theorem o_sub : Op2 cA (rI0 fun i j => .int (i - j)) fSub := op2_int0 fun dx dy d e => by
  unfold fSub at e; split at e
  · cases e; exact ⟨_, _, rfl, rfl, fun _ _ => rfl⟩
  · cases e
def fAddI : D → D → Option D
  | .int i, .int j => some (.int (i + j))
  | _, _ => none
theorem o_addI : Op2 cA (rI0 fun i j => .int (i + j)) fAddI := op2_int0 fun dx dy d e => by
  unfold fAddI at e; split at e
  · cases e; exact ⟨_, _, rfl, rfl, fun _ _ => rfl⟩
  · cases e
/-- within 2^64 -/
def w64 (i : Int) : Bool := Nat.blt i.natAbs 18446744073709551616
theorem w64_ok {i : Int} (h : w64 i = true) : -(2 ^ 64) < i ∧ i < 2 ^ 64 := by
  unfold w64 at h
  have := Nat.blt_eq.mp h
  constructor <;> omega
def fMulI : D → D → Option D
  | .int i, .int j => if (w64 i || w64 j) then some (.int (i * j)) else none
  | _, _ => none
theorem o_mulI : Op2 cA (rI CMul fun i j => .int (i * j)) fMulI := op2_int fun dx dy d e => by
  unfold fMulI at e; split at e
  · rename_i i j
    split at e
    · rename_i h
      cases e
      refine ⟨_, _, rfl, rfl, ?_, fun _ _ => rfl⟩
      rw [Bool.or_eq_true] at h
      exact h.imp w64_ok w64_ok
    · cases e
  · cases e
def w30 (j : Int) : Bool := Nat.blt j.natAbs 1073741824 && !(Nat.beq j.natAbs 0)
theorem w30_ok {j : Int} (h : w30 j = true) : j ≠ 0 ∧ j.natAbs < 1073741824 := by
  unfold w30 at h
  rw [Bool.and_eq_true, Bool.not_eq_true'] at h
  refine ⟨fun e => ?_, Nat.blt_eq.mp h.1⟩
  subst e
  exact absurd h.2 (by decide)
def fDiv : D → D → Option D
  | .int i, .int j => if w30 j then some (.int (i.fdiv j)) else none
  | _, _ => none
theorem o_div : Op2 cA (rI CDivN fun i j => .int (i.fdiv j)) fDiv := op2_int fun dx dy d e => by
  unfold fDiv at e; split at e
  · split at e
    · rename_i h
      cases e
      exact ⟨_, _, rfl, rfl, w30_ok h, fun _ _ => rfl⟩
    · cases e
  · cases e
def nz (j : Int) : Bool := !(Nat.beq j.natAbs 0)
theorem nz_ok {j : Int} (h : nz j = true) : j ≠ 0 := by
  unfold nz at h
  rw [Bool.not_eq_true'] at h
  intro e
  subst e
  exact absurd h (by decide)
def fMod : D → D → Option D
  | .int i, .int j => if nz j then some (.int (i.fmod j)) else none
  | _, _ => none
theorem o_mod : Op2 cA (rI (fun _ j => j ≠ 0) fun i j => .int (i.fmod j)) fMod := op2_int fun dx dy d e => by
  unfold fMod at e; split at e
  · split at e
    · rename_i h
      cases e
      exact ⟨_, _, rfl, rfl, nz_ok h, fun _ _ => rfl⟩
    · cases e
  · cases e
/-- t + u of tuples -/
def fCatT : D → D → Option D
  | .tup xs, .tup ys => if few (xs.length + ys.length) then some (.tup (xs ++ ys)) else none
  | _, _ => none
theorem o_catT : Op2 cA (rCatA K) fCatT := fun ast F0 H0 F ξ H env w dx dy d x y Q I rx ry e k => by
  unfold fCatT at e
  split at e
  · rename_i xs ys
    split at e
    · rename_i h
      cases e
      obtain ⟨p, us, rfl, hp, r1⟩ := rx
      obtain ⟨q, vs, rfl, hq, r2⟩ := ry
      have hz : us.length + vs.length ≤ sizeLine := by rw [← r1.length, ← r2.length]; exact few_line h
      refine ⟨p, q, us, vs, rfl, rfl, SqT.of (I.so.sub _ _ hp), SqT.of (I.so.sub _ _ hq), hz, fun z => ?_, fun _ z => ?_, fun _ _ n hn => ?_⟩
      · subst z
        have : xs = [] := List.eq_nil_of_length_eq_zero (by rw [r1.length]; rfl)
        subst this
        exact k F H _ I Sub.rfl' ⟨q, vs, rfl, hq, r2⟩
      · subst z
        have : ys = [] := List.eq_nil_of_length_eq_zero (by rw [r2.length]; rfl)
        subst this
        exact k F H _ I Sub.rfl' ⟨p, us, rfl, hp, by rw [List.append_nil]; exact r1⟩
      · have sb := Sub.upd (F := F) (p := n) (o := .tup (us ++ vs)) (I.so.sub.none hn)
        exact k _ _ _ (I.alloc hn) sb ⟨n, _, rfl, upd_same, (r1.append r2).mono sb⟩
    · cases e
  · cases e
/-- l + m of lists -/
def fCatL : D → D → Option D
  | .lst xs, .lst ys => if few (xs.length + ys.length) then some (.lst (xs ++ ys)) else none
  | _, _ => none
theorem o_catL : Op2 cA rCat fCatL := fun ast F0 H0 F ξ H env w dx dy d x y Q I rx ry e k => by
  unfold fCatL at e
  split at e
  · rename_i xs ys
    split at e
    · rename_i h
      cases e
      obtain ⟨p, us, rfl, hp, r1⟩ := rx
      obtain ⟨q, vs, rfl, hq, r2⟩ := ry
      have hz : us.length + vs.length ≤ sizeLine := by rw [← r1.length, ← r2.length]; exact few_line h
      refine ⟨p, q, us, vs, rfl, rfl, I.so.sub _ _ hp, I.so.sub _ _ hq, hz, fun n hn => ?_⟩
      have sb := Sub.upd (F := F) (p := n) (o := .lst (us ++ vs)) (I.so.sub.none hn)
      exact k _ _ _ (I.alloc hn) sb ⟨n, _, rfl, upd_same, (r1.append r2).mono sb⟩
    · cases e
  · cases e
def fAdd : D → D → Option D
  | .int i, .int j => some (.int (i + j))
  | .tup xs, .tup ys => if few (xs.length + ys.length) then some (.tup (xs ++ ys)) else none
  | .lst xs, .lst ys => if few (xs.length + ys.length) then some (.lst (xs ++ ys)) else none
  | _, _ => none
theorem op2_imp {r : R2} {f g : D → D → Option D} (h : Op2 cA r f) (i : ∀ x y d, g x y = some d → f x y = some d) : Op2 cA r g :=
  fun ast F0 H0 F ξ H env w dx dy d x y Q I rx ry e k => h ast F0 H0 F ξ H env w dx dy d x y Q I rx ry (i _ _ _ e) k
theorem o_add : Op2 cA (fun x y H Q => rI0 (fun i j => .int (i + j)) x y H Q ∨ (rCatA K x y H Q ∨ rCat x y H Q)) fAdd :=
  op2_imp (op2_or o_addI (op2_or o_catT o_catL)) fun x y d e => by
    unfold fAdd at e
    split at e
    · cases e; rfl
    · rename_i xs ys
      have e2 : fCatT (.tup xs) (.tup ys) = some d := e
      have h1 : fAddI (.tup xs) (.tup ys) = none := rfl
      simp only [h1, e2]
    · rename_i xs ys
      show (match fCatT (.lst xs) (.lst ys) with | some d => some d | none => fCatL (.lst xs) (.lst ys)) = some d
      exact e
    · cases e
theorem opr_add : OpR X (binaryOp .Add) (fun x y H Q => rI0 (fun i j => .int (i + j)) x y H Q ∨ (rCatA X.K x y H Q ∨ rCat x y H Q)) := op_add.or (op_catA.or op_cat)
/-- l * k, t * k -/
def fMulL : D → D → Option D
  | .lst xs, .int (.ofNat k) => if few (xs.length * k) && Nat.blt k 4001 then some (.lst (List.replicate k xs).flatten) else none
  | _, _ => none
theorem replD : ∀ (n : Nat) {F : Hp} {ast : Addr} {ds : List D} {vs : List V}, RelDs cA ast F ds vs → RelDs cA ast F (List.replicate n ds).flatten (List.replicate n vs).flatten
  | 0, _, _, _, _, _ => rfl
  | n + 1, _, _, _, _, h => by
    rw [List.replicate_succ, List.replicate_succ, List.flatten_cons, List.flatten_cons]
    exact h.append (replD n h)
theorem o_mulL : Op2 cA rRep fMulL := fun ast F0 H0 F ξ H env w dx dy d x y Q I rx ry e k => by
  unfold fMulL at e
  split at e
  · rename_i xs n
    split at e
    · rename_i h
      rw [Bool.and_eq_true] at h
      cases e
      obtain ⟨p, us, rfl, hp, r1⟩ := rx
      cases ry
      have hn := Nat.blt_eq.mp h.2
      refine ⟨p, _, us, rfl, rfl, I.so.sub _ _ hp, ?_, ?_, ?_, fun q hq => ?_⟩
      · have : (0 : Int) ≤ Int.ofNat n := Int.natCast_nonneg n
        omega
      · have e1 : (Int.ofNat n : Int) = (n : Int) := rfl
        rw [e1]
        omega
      · show us.length * n ≤ sizeLine
        rw [← r1.length]
        exact few_line h.1
      · have sb := Sub.upd (F := F) (p := q) (o := .lst (List.replicate n us).flatten) (I.so.sub.none hq)
        exact k _ _ _ (I.alloc hq) sb ⟨q, _, rfl, upd_same, (replD n r1).mono sb⟩
    · cases e
  · cases e
def fMulT : D → D → Option D
  | .tup xs, .int (.ofNat k) => if Nat.ble 2 k && Nat.ble k 1000 && Nat.ble xs.length 1000 && !xs.isEmpty then some (.tup (List.replicate k xs).flatten) else none
  | _, _ => none
theorem o_mulT : Op2 cA (rRepT K) fMulT := fun ast F0 H0 F ξ H env w dx dy d x y Q I rx ry e k => by
  unfold fMulT at e
  split at e
  · rename_i xs n
    split at e
    · rename_i h
      simp only [Bool.and_eq_true, Nat.ble_eq, Bool.not_eq_true'] at h
      obtain ⟨⟨⟨h1, h2⟩, h3⟩, h4⟩ := h
      cases e
      obtain ⟨p, us, rfl, hp, r1⟩ := rx
      cases ry
      have e1 : (Int.ofNat n : Int) = (n : Int) := rfl
      refine ⟨p, _, us, rfl, rfl, SqT.of (I.so.sub _ _ hp), ?_, ?_, ?_, ?_, fun q hq => ?_⟩
      · intro z
        subst z
        have : xs = [] := List.eq_nil_of_length_eq_zero (by rw [r1.length]; rfl)
        subst this
        cases h4
      · rw [e1]; omega
      · rw [e1]; omega
      · rw [← r1.length]; exact h3
      · have sb := Sub.upd (F := F) (p := q) (o := .tup (List.replicate n us).flatten) (I.so.sub.none hq)
        exact k _ _ _ (I.alloc hq) sb ⟨q, _, rfl, upd_same, (replD n r1).mono sb⟩
    · cases e
  · cases e
def fMul : D → D → Option D
  | .int i, .int j => fMulI (.int i) (.int j)
  | .lst xs, y => fMulL (.lst xs) y
  | .tup xs, y => fMulT (.tup xs) y
  | _, _ => none
theorem opr_mul : OpR X (binaryOp .Mult) (fun x y H Q => rI CMul (fun i j => .int (i * j)) x y H Q ∨ (rRep x y H Q ∨ rRepT X.K x y H Q)) := op_mul.or (op_rep.or op_repT)
theorem o_mul : Op2 cA (fun x y H Q => rI CMul (fun i j => .int (i * j)) x y H Q ∨ (rRep x y H Q ∨ rRepT K x y H Q)) fMul :=
  op2_imp (op2_or o_mulI (op2_or o_mulL o_mulT)) fun x y d e => by
    cases x with
    | int i =>
      have e2 : fMulI (.int i) y = some d := by cases y <;> first | exact e | cases e
      simp only [e2]
    | lst xs =>
      have e2 : fMulL (.lst xs) y = some d := e
      have h1 : fMulI (.lst xs) y = none := by cases y <;> rfl
      simp only [h1, e2]
    | tup xs =>
      have e2 : fMulT (.tup xs) y = some d := e
      have h1 : fMulI (.tup xs) y = none := by cases y <;> rfl
      have h2 : fMulL (.tup xs) y = none := by cases y <;> rfl
      simp only [h1, h2, e2]
    | _ => cases e
/-! ### unary -/
def evUn (f : D → Option D) (t : TEv) : TEv := fun env w => match t env w with
  | some (x, env, w) => match f x with
    | some d => some (d, env, w)
    | none => none
  | none => none
def Op1 (cA : Nat → Addr) (r : V → Hp → VK → Prop) (f : D → Option D) : Prop :=
  ∀ ast F0 H0 F ξ H env w dx d x (Q : VK), SR cA ast F0 H0 F ξ H env w → RelD cA ast F dx x → f dx = some d →
    (∀ F' H' v, SR cA ast F0 H0 F' ξ H' env w → Sub F F' → RelD cA ast F' d v → Q v H') → r x H Q
theorem evUn_some {f : D → Option D} {t : TEv} {env : Env} {w : W} {d : D} {env' : Env} {w' : W} (e : evUn f t env w = some (d, env', w')) : ∃ x, t env w = some (x, env', w') ∧ f x = some d := by
  unfold evUn at e
  split at e
  · rename_i x env1 w1 e1
    split at e
    · rename_i d' e2
      cases e
      exact ⟨x, e1, e2⟩
    · cases e
  · cases e
theorem rd_un {r : V → Hp → VK → Prop} {f : D → Option D} {t : TEv} (hf : Op1 cA r f) {σ : St} {H : Hp} {Q : VK} (q : rdE cA (evUn f t) σ H Q) : rdE cA t σ H fun x H1 => r x H1 Q := by
  obtain ⟨ast, F0, H0, F, τ, env, w, d, env', w', I, e, k⟩ := q
  obtain ⟨x, e1, e2⟩ := evUn_some e
  exact rdE_mk I e1 fun F1 H1 v1 I1 s1 r1 => hf ast F0 H0 F1 _ H1 env' w' x d v1 Q I1 r1 e2 fun F2 H2 v2 I2 s2 r2 => k F2 H2 v2 I2 (s1.trans s2) r2
theorem pE_un {op : UnaryOp} {r : V → Hp → VK → Prop} {f : D → Option D} (ho : UnR X (unaryOp op) r) (hf : Op1 cA r f) (ha : PE X a (rdE cA ta)) : PE X (.UnaryOp op a pos) (rdE cA (evUn f ta)) :=
  PE.imp (pe_un ho ha) fun σ H Q q => rd_un hf q
def fNeg : D → Option D
  | .int i => some (.int (-i))
  | _ => none
theorem o_neg : Op1 cA (rU fun i => .int (-i)) fNeg := fun ast F0 H0 F ξ H env w dx d x Q I rx e k => by
  unfold fNeg at e
  split at e
  · cases e; exact ⟨_, rx, k F H _ I Sub.rfl' rfl⟩
  · cases e

/-! ### comparisons -/
def fCmp (p : Int → Int → Bool) : D → D → Option D
  | .int i, .int j => some (.bl (p i j))
  | _, _ => none
theorem o_cmp {p : Int → Int → Bool} : Op2 cA (rI0 fun i j => .bl (p i j)) (fCmp p) := op2_int0 fun dx dy d e => by
  unfold fCmp at e; split at e
  · cases e; exact ⟨_, _, rfl, rfl, fun _ _ => rfl⟩
  · cases e
/-- is None, is not None -/
def isNon : D → Bool
  | .non => true
  | _ => false
def fIsN : D → D → Option D
  | x, .non => some (.bl (isNon x))
  | _, _ => none
def fNotN : D → D → Option D
  | x, .non => some (.bl (!isNon x))
  | _, _ => none
theorem rel_non {ast F} {d : D} {v : V} (r : RelD cA ast F d v) : decide (v = .non) = isNon d := by
  cases d with
  | non => cases r; rfl
  | bl _ => cases r; rfl
  | int _ => cases r; rfl
  | str _ => cases r; rfl
  | tup _ => obtain ⟨a, vs, rfl, _⟩ := r; rfl
  | lst _ => obtain ⟨a, vs, rfl, _⟩ := r; rfl
  | ins _ _ => obtain ⟨a, dx, vs, rfl, _⟩ := r; rfl
  | dic _ _ _ => exact r.elim
  | st => cases r; rfl
theorem o_isN : Op2 cA (fun x y H Q => y = .non ∧ Q (.bl (decide (x = .non))) H) fIsN := fun ast F0 H0 F ξ H env w dx dy d x y Q I rx ry e k => by
  unfold fIsN at e
  split at e
  · cases e
    refine ⟨ry, ?_⟩
    rw [rel_non rx]
    exact k F H _ I Sub.rfl' rfl
  · cases e
theorem o_notN : Op2 cA (fun x y H Q => y = .non ∧ Q (.bl (!decide (x = .non))) H) fNotN := fun ast F0 H0 F ξ H env w dx dy d x y Q I rx ry e k => by
  unfold fNotN at e
  split at e
  · cases e
    refine ⟨ry, ?_⟩
    rw [rel_non rx]
    exact k F H _ I Sub.rfl' rfl
  · cases e
/-! ### data: == and in at any depth -/
mutual
def toP : D → Option PyData
  | .non => some .none
  | .bl b => some (.bool b)
  | .int i => some (.int i)
  | .str s => some (.str s)
  | .tup ds => match toPs ds with
    | some ps => some (.tuple ps)
    | none => none
  | .lst ds => match toPs ds with
    | some ps => some (.list ps)
    | none => none
  | .ins _ _ => none
  | .dic _ _ _ => none
  | .st => none
def toPs : List D → Option (List PyData)
  | [] => some []
  | d :: ds => match toP d with
    | some p => match toPs ds with
      | some ps => some (p :: ps)
      | none => none
    | none => none
end
mutual
theorem toP_dp {ast : Addr} {F H : Hp} (s : Sub F H) : ∀ (d : D) (p : PyData) (v : V), toP d = some p → RelD cA ast F d v → Dp K H v p
  | .non, p, v, e, r => by cases r; simp only [toP] at e; cases e; exact .non
  | .bl b, p, v, e, r => by cases r; simp only [toP] at e; cases e; exact .bl b
  | .int i, p, v, e, r => by cases r; simp only [toP] at e; cases e; exact .int i
  | .str x, p, v, e, r => by cases r; simp only [toP] at e; cases e; exact .str x
  | .tup ds, p, v, e, r => by
    obtain ⟨a, vs, rfl, h, r⟩ := r
    simp only [toP] at e
    split at e
    · rename_i ps ep; cases e; exact .tup (SqT.of (s _ _ h)) (toPs_dp s ds ps vs ep r)
    · cases e
  | .lst ds, p, v, e, r => by
    obtain ⟨a, vs, rfl, h, r⟩ := r
    simp only [toP] at e
    split at e
    · rename_i ps ep; cases e; exact .lst (SqL.of (s _ _ h)) (toPs_dp s ds ps vs ep r)
    · cases e
  | .ins _ _, p, v, e, r => by simp [toP] at e
  | .dic _ _ _, p, v, e, r => by simp [toP] at e
  | .st, p, v, e, r => by simp [toP] at e
theorem toPs_dp {ast : Addr} {F H : Hp} (s : Sub F H) : ∀ (ds : List D) (ps : List PyData) (vs : List V), toPs ds = some ps → RelDs cA ast F ds vs → DpAll K H vs ps
  | [], ps, vs, e, r => by cases r; simp only [toPs] at e; cases e; exact .nil
  | d :: ds, ps, vs, e, r => by
    obtain ⟨v, us, rfl, r1, r2⟩ := r
    simp only [toPs] at e
    split at e
    · rename_i p ep
      split at e
      · rename_i qs eq; cases e; exact .cons (toP_dp s d p v ep r1) (toPs_dp s ds qs us eq r2)
      · cases e
    · cases e
end
def shP (d : D) : Option PyData := match toP d with
  | some p => if SeqAt.shaped p then some p else none
  | none => none
theorem shP_some {d : D} {p : PyData} (h : shP d = some p) : toP d = some p ∧ SeqAt.shaped p = true := by
  unfold shP at h
  split at h
  · split at h
    · rename_i q eq hs; cases h; exact ⟨eq, hs⟩
    · cases h
  · cases h
def fEq : D → D → Option D := fun x y => match shP x with
  | some p => match shP y with
    | some q => some (.bl (PyData.eqv p q))
    | none => none
  | none => none
def fNe : D → D → Option D := fun x y => match shP x with
  | some p => match shP y with
    | some q => some (.bl (!PyData.eqv p q))
    | none => none
  | none => none
theorem o_eq : Op2 cA (rEqD K) fEq := fun ast F0 H0 F ξ H env w dx dy d x y Q I rx ry e k => by
  unfold fEq at e
  split at e
  · rename_i p ep
    split at e
    · rename_i q eq
      cases e
      obtain ⟨e1, e2⟩ := shP_some ep
      obtain ⟨e3, e4⟩ := shP_some eq
      exact ⟨p, q, toP_dp I.so.sub _ _ _ e1 rx, toP_dp I.so.sub _ _ _ e3 ry, e2, e4, k F H _ I Sub.rfl' rfl⟩
    · cases e
  · cases e
theorem o_ne : Op2 cA (rNeD K) fNe := fun ast F0 H0 F ξ H env w dx dy d x y Q I rx ry e k => by
  unfold fNe at e
  split at e
  · rename_i p ep
    split at e
    · rename_i q eq
      cases e
      obtain ⟨e1, e2⟩ := shP_some ep
      obtain ⟨e3, e4⟩ := shP_some eq
      exact ⟨p, q, toP_dp I.so.sub _ _ _ e1 rx, toP_dp I.so.sub _ _ _ e3 ry, e2, e4, k F H _ I Sub.rfl' rfl⟩
    · cases e
  · cases e
/-- in: a list or a tuple of data -/
def rInDT (K : PySem.W.Frag) (neg : Bool) : R2 := fun x y H Q => ∃ d ds, Dp K H x d ∧ (Dp K H y (.list ds) ∧ SeqAt.shaped (.list ds) = true ∨ Dp K H y (.tuple ds) ∧ SeqAt.shaped (.tuple ds) = true) ∧ SeqAt.shaped d = true ∧
  Q (.bl (if neg then !(ds.any fun z => PyData.eqv z d) else ds.any fun z => PyData.eqv z d)) H
theorem op_inDT (hu : X.A.units + 65 < cLine) : OpR X (compareOp .In) (rInDT X.K false) := by
  intro pins s σ H x y v u Q I rx ry h
  obtain ⟨d, ds, hd, he, sd, q⟩ := h
  obtain ⟨as, r1⟩ := Dp.reads I d x v hd rx
  rcases he with ⟨he, se⟩ | ⟨he, se⟩
  · obtain ⟨bs, r2⟩ := Dp.reads I (.list ds) y u he ry
    exact SeqAt.in_list_reads r2 r1 (SeqAt.canLay_of_shaped se) (SeqAt.canLay_of_shaped sd) (PyProof.Rows.room_in_shaped sd hu) ⟨.bl _, H, I, rfl, q⟩
  · obtain ⟨bs, r2⟩ := Dp.reads I (.tuple ds) y u he ry
    exact SeqAt.in_tuple_reads r2 r1 (SeqAt.canLay_of_shaped se) (SeqAt.canLay_of_shaped sd) (PyProof.Rows.room_in_shaped sd hu) ⟨.bl _, H, I, rfl, q⟩
theorem op_notInDT (hu : X.A.units + 65 < cLine) : OpR X (compareOp .NotIn) (rInDT X.K true) := by
  intro pins s σ H x y v u Q I rx ry h
  obtain ⟨d, ds, hd, he, sd, q⟩ := h
  obtain ⟨as, r1⟩ := Dp.reads I d x v hd rx
  rcases he with ⟨he, se⟩ | ⟨he, se⟩
  · obtain ⟨bs, r2⟩ := Dp.reads I (.list ds) y u he ry
    exact SeqAt.notIn_list_reads r2 r1 (SeqAt.canLay_of_shaped se) (SeqAt.canLay_of_shaped sd) (PyProof.Rows.room_in_shaped sd hu) ⟨.bl _, H, I, rfl, q⟩
  · obtain ⟨bs, r2⟩ := Dp.reads I (.tuple ds) y u he ry
    exact SeqAt.notIn_tuple_reads r2 r1 (SeqAt.canLay_of_shaped se) (SeqAt.canLay_of_shaped sd) (PyProof.Rows.room_in_shaped sd hu) ⟨.bl _, H, I, rfl, q⟩
def fIn (neg : Bool) : D → D → Option D := fun x y => match shP x with
  | some p => match shP y with
    | some (.list qs) => some (.bl (if neg then !(qs.any fun z => PyData.eqv z p) else qs.any fun z => PyData.eqv z p))
    | some (.tuple qs) => some (.bl (if neg then !(qs.any fun z => PyData.eqv z p) else qs.any fun z => PyData.eqv z p))
    | _ => none
  | none => none
theorem o_in {neg : Bool} : Op2 cA (rInDT K neg) (fIn neg) := fun ast F0 H0 F ξ H env w dx dy d x y Q I rx ry e k => by
  unfold fIn at e
  split at e
  · rename_i p ep
    obtain ⟨e1, e2⟩ := shP_some ep
    split at e
    · rename_i q eq
      cases e
      obtain ⟨e3, e4⟩ := shP_some eq
      exact ⟨p, _, toP_dp I.so.sub _ _ _ e1 rx, .inl ⟨toP_dp I.so.sub _ _ _ e3 ry, e4⟩, e2, k F H _ I Sub.rfl' rfl⟩
    · rename_i q eq
      cases e
      obtain ⟨e3, e4⟩ := shP_some eq
      exact ⟨p, _, toP_dp I.so.sub _ _ _ e1 rx, .inr ⟨toP_dp I.so.sub _ _ _ e3 ry, e4⟩, e2, k F H _ I Sub.rfl' rfl⟩
    · cases e
  · cases e
end Ev

namespace Ev
open PySem L2
variable {cA : Nat → Addr} {X : Cx} {a b c e : Expr} {ta tb tc te : TEv} {pos : Pos} {K : PySem.W.Frag}

/-! ### a value that is only looked at -/
def RelB (cA : Nat → Addr) (ast : Addr) (F H : Hp) : D → V → Prop
  | .lst ds, v => ∃ a vs, v = .ref a ∧ H a = some (.lst vs) ∧ RelDs cA ast F ds vs
  | .ins c ds, v => ∃ a dx vs, v = .ref a ∧ H a = some (.ins (cA c) dx ((fN c).zip vs)) ∧ RelDs cA ast F ds vs
  | .dic t ks ds, v => ∃ a, v = .ref a ∧ DicAt cA ast F H a t ks ds
  | d, v => RelD cA ast F d v
theorem RelB.of {ast : Addr} {F H : Hp} (s : Sub F H) {d : D} {v : V} (r : RelD cA ast F d v) : RelB cA ast F H d v := by
  cases d with
  | lst ds => obtain ⟨a, vs, e, h, r⟩ := r; exact ⟨a, vs, e, s _ _ h, r⟩
  | ins c ds => obtain ⟨a, dx, vs, e, h, r⟩ := r; exact ⟨a, dx, vs, e, s _ _ h, r⟩
  | dic _ _ _ => exact r.elim
  | _ => exact r
theorem RelB.ofU {ast : Addr} {F H : Hp} {d : D} {v : V} (r : RelU cA ast F H d v) : RelB cA ast F H d v := by
  cases d with
  | lst ds => obtain ⟨a, vs, e, _, h, r⟩ := r; exact ⟨a, vs, e, h, r⟩
  | ins c ds => obtain ⟨a, dx, vs, e, _, h, _, r⟩ := r; exact ⟨a, dx, vs, e, h, r⟩
  | dic _ _ _ => obtain ⟨a, e, _, h⟩ := r; exact ⟨a, e, h⟩
  | _ => exact r.elim
def slotD : SV → Option D
  | .fr d => some d
  | .own d => some d
  | .bor d => some d
  | .no => none
theorem SR.see {ast F0 H0 F H ξ env w} (I : SR cA ast F0 H0 F ξ H env w) {i : Nat} {s : SV} {d : D} (h : env[i]? = some s) (hd : slotD s = some d) : ∃ v, at_ ξ i = some v ∧ RelB cA ast F H d v := by
  have q := I.slots _ _ h
  cases s with
  | no => cases hd
  | fr d' => cases hd; obtain ⟨v, e, r⟩ := q; exact ⟨v, e, RelB.of I.so.sub r⟩
  | own d' => cases hd; obtain ⟨v, e, r, _⟩ := q; exact ⟨v, e, RelB.ofU r⟩
  | bor d' => cases hd; obtain ⟨v, e, r, _⟩ := q; exact ⟨v, e, RelB.ofU r⟩
def rdB (cA : Nat → Addr) (t : TEv) : TE := rdG cA (fun ast F H _ _ d v => RelB cA ast F H d v) t
theorem rdB_mk {t : TEv} {σ : St} {H : Hp} {Q : VK} {ast F0 H0 F τ env w d env' w'} (I : SR cA ast F0 H0 F (σ ++ τ) H env w) (e : t env w = some (d, env', w'))
    (k : ∀ F' H' v, SR cA ast F0 H0 F' (σ ++ τ) H' env' w' → Sub F F' → RelB cA ast F' H' d v → Q v H') : rdB cA t σ H Q := ⟨ast, F0, H0, F, τ, env, w, d, env', w', I, e, k⟩
theorem pB_of {t : TEv} (h : PE X e (rdE cA t)) : PE X e (rdB cA t) := PE.imp h fun σ H Q ⟨ast, F0, H0, F, τ, env, w, d, env', w', I, e, k⟩ =>
  rdE_mk I e fun F1 H1 v1 I1 s1 r1 => k F1 H1 v1 I1 s1 (RelB.of I1.so.sub r1)
def look (env : Env) (i : Nat) : Option D := match ix env i with
  | some s => slotD s
  | none => none
theorem look_some {env : Env} {i : Nat} {d : D} (h : look env i = some d) : ∃ s, env[i]? = some s ∧ slotD s = some d := by
  unfold look at h
  rw [ix_eq] at h
  split at h
  · rename_i s e; exact ⟨s, e, h⟩
  · cases h
def evLook (i : Nat) : TEv := fun env w => match look env i with
  | some d => some (d, env, w)
  | none => none
theorem evLook_some {i : Nat} {env : Env} {w : W} {d : D} {env' : Env} {w' : W} (e : evLook i env w = some (d, env', w')) : look env i = some d ∧ env' = env ∧ w' = w := by
  unfold evLook at e
  split at e
  · cases e; exact ⟨by assumption, rfl, rfl⟩
  · cases e
theorem pB_var {i : Nat} {x : Str} {pos : Pos} (h : PE X (.Name x pos) (tVar i)) (hi : i < X.N.length) : PE X (.Name x pos) (rdB cA (evLook i)) :=
  ⟨fun p s σ H Q I q => h.run p s σ H Q I (by
    obtain ⟨ast, F0, H0, F, τ, env, w, d, env', w', J, e, k⟩ := q
    obtain ⟨e1, e2, e3⟩ := evLook_some e
    subst e2 e3
    obtain ⟨s, e4, e5⟩ := look_some e1
    obtain ⟨v, e6, r⟩ := J.see e4 e5
    exact ⟨v, at_left e6 (by rw [I.len]; exact hi), k F H v J Sub.rfl' r⟩)⟩

/-! ### built-ins of one argument -/
def Call1 (cA : Nat → Addr) (r : List V → Hp → VK → Prop) (f : D → Option D) : Prop :=
  ∀ ast F0 H0 F ξ H env w dx d x (Q : VK), SR cA ast F0 H0 F ξ H env w → RelB cA ast F H dx x → f dx = some d →
    (∀ F' H' v, SR cA ast F0 H0 F' ξ H' env w → Sub F F' → RelD cA ast F' d v → Q v H') → r [x] H Q
/-- .. whose answer is a new object -/
def Call1N (cA : Nat → Addr) (r : List V → Hp → VK → Prop) (f : D → Option D) : Prop :=
  ∀ ast F0 H0 F ξ H env w dx d x (Q : VK), SR cA ast F0 H0 F ξ H env w → RelB cA ast F H dx x → f dx = some d →
    (∀ H' v, SR cA ast F0 H0 F (ξ ++ [some v]) H' (env ++ [.own d]) w → Q v H') → r [x] H Q
section
variable {r : List V → Hp → VK → Prop} {f : D → Option D} {id T : String} {x : Str} {p : Pos}
theorem rd_call1 (hf : Call1 cA r f) {σ : St} {H : Hp} {Q : VK} (q : rdE cA (evUn f ta) σ H Q) : tCB r (tCons (rdB cA ta) tNil) σ H Q := by
  obtain ⟨ast, F0, H0, F, τ, env, w, d, env', w', I, e, k⟩ := q
  obtain ⟨y, e1, e2⟩ := evUn_some e
  exact rdB_mk I e1 fun F1 H1 v1 I1 s1 r1 => hf ast F0 H0 F1 _ H1 env' w' y d v1 Q I1 r1 e2 fun F2 H2 v2 I2 s2 r2 => k F2 H2 v2 I2 (s1.trans s2) r2
theorem rd_call1N (hf : Call1N cA r f) {σ : St} {H : Hp} {Q : VK} (q : rdN cA (evUn f ta) σ H Q) : tCB r (tCons (rdB cA ta) tNil) σ H Q := by
  obtain ⟨ast, F0, H0, F, τ, env, w, d, env', w', I, e, k⟩ := q
  obtain ⟨y, e1, e2⟩ := evUn_some e
  exact rdB_mk I e1 fun F1 H1 v1 I1 s1 r1 => hf ast F0 H0 F1 _ H1 env' w' y d v1 Q I1 r1 e2 fun H2 v2 I2 => k F1 H2 v2 I2 s1
theorem pE_callB1 (hc : CallR X (.builtin id) r) (hf : Call1 cA r f) (hg : Gl X x) (hm : X.mg x = none) (hv : bootBuiltins x = some (.builtin id)) (ha : PE X a (rdB cA ta)) (hn : x ≠ "__name__" := by decide) (hdb : (x == ("__debug__" : Str)) = false := by decide)
    (hs : starEach [a] X.env = [(false, eval a X.env)] := by rfl) : PE X (.Call (.Name x p) [a] [] pos) (rdE cA (evUn f ta)) :=
  PE.imp (pe_callB hc hg hm hv (pa_cons ha pa_nil hs) hn hdb hs) fun σ H Q q => rd_call1 hf q
theorem pE_callTy1 (hc : CallR X (.type T) r) (hf : Call1 cA r f) (hg : Gl X x) (hm : X.mg x = none) (hv : bootBuiltins x = some (.type T)) (ha : PE X a (rdB cA ta)) (hn : x ≠ "__name__" := by decide) (hdb : (x == ("__debug__" : Str)) = false := by decide)
    (hs : starEach [a] X.env = [(false, eval a X.env)] := by rfl) : PE X (.Call (.Name x p) [a] [] pos) (rdE cA (evUn f ta)) :=
  PE.imp (pe_callTy hc hg hm hv (pa_cons ha pa_nil hs) hn hdb hs) fun σ H Q q => rd_call1 hf q
theorem pN_callB1 (hc : CallR X (.builtin id) r) (hf : Call1N cA r f) (hg : Gl X x) (hm : X.mg x = none) (hv : bootBuiltins x = some (.builtin id)) (ha : PE X a (rdB cA ta)) (hn : x ≠ "__name__" := by decide) (hdb : (x == ("__debug__" : Str)) = false := by decide)
    (hs : starEach [a] X.env = [(false, eval a X.env)] := by rfl) : PE X (.Call (.Name x p) [a] [] pos) (rdN cA (evUn f ta)) :=
  PE.imp (pe_callB hc hg hm hv (pa_cons ha pa_nil hs) hn hdb hs) fun σ H Q q => rd_call1N hf q
theorem pN_callTy1 (hc : CallR X (.type T) r) (hf : Call1N cA r f) (hg : Gl X x) (hm : X.mg x = none) (hv : bootBuiltins x = some (.type T)) (ha : PE X a (rdB cA ta)) (hn : x ≠ "__name__" := by decide) (hdb : (x == ("__debug__" : Str)) = false := by decide)
    (hs : starEach [a] X.env = [(false, eval a X.env)] := by rfl) : PE X (.Call (.Name x p) [a] [] pos) (rdN cA (evUn f ta)) :=
  PE.imp (pe_callTy hc hg hm hv (pa_cons ha pa_nil hs) hn hdb hs) fun σ H Q q => rd_call1N hf q
end
/-- a new list of one's own is frozen where it is not kept -/
theorem rd_ofN {t : TEv} (hl : ∀ env w d env' w', t env w = some (d, env', w') → ∃ ds, d = .lst ds) {σ : St} {H : Hp} {Q : VK} (q : rdE cA t σ H Q) : rdN cA t σ H Q := by
  obtain ⟨ast, F0, H0, F, τ, env, w, d, env', w', I, e, k⟩ := q
  obtain ⟨ds, rfl⟩ := hl _ _ _ _ _ e
  refine ⟨ast, F0, H0, F, τ, env, w, _, env', w', I, e, fun F' H' v J sb => ?_⟩
  have hlen : env'.length = (σ ++ τ).length := by have := J.len; simp only [List.length_append, List.length_singleton] at this ⊢; omega
  have ht : (env' ++ [SV.own (.lst ds)])[env'.length]? = some (.own (.lst ds)) := by simp
  obtain ⟨v', F2, e1, J2, s2, r2⟩ := J.freeze ht
  have ev : v' = v := by
    unfold at_ at e1
    rw [hlen] at e1
    simp at e1
    exact e1.symm
  subst ev
  have e3 : (env' ++ [SV.own (.lst ds)]).set env'.length (.fr (.lst ds)) = env' ++ [.fr (.lst ds)] := by simp
  rw [e3] at J2
  exact k F2 H' v' J2.pop (sb.trans s2) r2
theorem pE_ofN {t : TEv} (h : PE X e (rdN cA t)) (hl : ∀ env w d env' w', t env w = some (d, env', w') → ∃ ds, d = .lst ds) : PE X e (rdE cA t) := PE.imp h fun σ H Q q => rd_ofN hl q
theorem un_lst {f : D → Option D} {t : TEv} (hf : ∀ x d, f x = some d → ∃ ds, d = .lst ds) : ∀ env w d env' w', evUn f t env w = some (d, env', w') → ∃ ds, d = .lst ds := fun env w d env' w' e => by
  obtain ⟨y, e1, e2⟩ := evUn_some e
  exact hf _ _ e2

/-- len -/
def fLen : D → Option D
  | .lst ds => some (.int ds.length)
  | .tup ds => some (.int ds.length)
  | .dic _ ks _ => some (.int ks.length)
  | _ => none
def rLenAll (K : PySem.W.Frag) : List V → Hp → VK → Prop := fun xs H Q => ((∃ p ys, xs = [.ref p] ∧ (SqL K H p ys ∨ SqT K H p ys) ∧ Q (.int ys.length) H) ∨ (∃ a kvs, xs = [V.ref a] ∧ H a = some (.dK kvs) ∧ Q (.int kvs.length) H)) ∨ rLenT xs H Q
theorem c_len_all : CallR X (.builtin "len") (rLenAll X.K) := (call_len_seq.or call_lenD).or call_len_dT
theorem c_len : Call1 cA (rLenAll K) fLen := fun ast F0 H0 F ξ H env w dx d x Q I r e k => by
  unfold fLen at e
  split at e
  · cases e
    obtain ⟨a, vs, rfl, h, rs⟩ := r
    exact .inl (.inl ⟨a, vs, rfl, .inl (SqL.of h), k F H _ I Sub.rfl' (by rw [rs.length]; rfl)⟩)
  · cases e
    obtain ⟨a, vs, rfl, h, rs⟩ := r
    exact .inl (.inl ⟨a, vs, rfl, .inr (SqT.of (I.so.sub _ _ h)), k F H _ I Sub.rfl' (by rw [rs.length]; rfl)⟩)
  · rename_i t ks vs
    obtain ⟨a, rfl, h⟩ := r
    cases t with
    | false =>
      obtain ⟨kvs, h, e1, rs⟩ := h
      cases e
      exact .inl (.inr ⟨a, kvs, rfl, h, k F H _ I Sub.rfl' (by rw [e1, List.length_map]; rfl)⟩)
    | true =>
      obtain ⟨kvs, h, e1, rs⟩ := h
      cases e
      exact .inr ⟨a, kvs, rfl, h, k F H _ I Sub.rfl' (by rw [e1, List.length_map]; rfl)⟩
  · cases e
/-- ints of a list of values -/
def toInts : List D → Option (List Int)
  | [] => some []
  | .int i :: ds => match toInts ds with
    | some is => some (i :: is)
    | none => none
  | _ :: _ => none
theorem toInts_vals {ast : Addr} {F : Hp} : ∀ {ds : List D} {is : List Int} {vs : List V}, toInts ds = some is → RelDs cA ast F ds vs → vs = is.map V.int ∧ ds = is.map D.int
  | [], is, vs, e, r => by cases r; simp only [toInts] at e; cases e; exact ⟨rfl, rfl⟩
  | d :: ds, is, vs, e, r => by
    obtain ⟨v, us, rfl, r1, r2⟩ := r
    cases d with
    | int i =>
      simp only [toInts] at e
      split at e
      · rename_i js ej
        cases e
        obtain ⟨h1, h2⟩ := toInts_vals ej r2
        cases r1
        exact ⟨by rw [h1]; rfl, by rw [h2]; rfl⟩
      · cases e
    | _ => simp [toInts] at e
def toBls : List D → Option (List Bool)
  | [] => some []
  | .bl i :: ds => match toBls ds with
    | some is => some (i :: is)
    | none => none
  | _ :: _ => none
theorem toBls_vals {ast : Addr} {F : Hp} : ∀ {ds : List D} {is : List Bool} {vs : List V}, toBls ds = some is → RelDs cA ast F ds vs → vs = is.map V.bl
  | [], is, vs, e, r => by cases r; simp only [toBls] at e; cases e; rfl
  | d :: ds, is, vs, e, r => by
    obtain ⟨v, us, rfl, r1, r2⟩ := r
    cases d with
    | bl i =>
      simp only [toBls] at e
      split at e
      · rename_i js ej
        cases e
        rw [toBls_vals ej r2]
        cases r1
        rfl
      · cases e
    | _ => simp [toBls] at e
def sumI : List Int → Int
  | [] => 0
  | i :: is => i + sumI is
theorem sumI_eq : ∀ l : List Int, sumI l = l.sum
  | [] => rfl
  | i :: l => by rw [List.sum_cons, ← sumI_eq l]; rfl
def fSum : D → Option D
  | .lst ds => match toInts ds with
    | some is => some (.int (sumI is))
    | none => none
  | _ => none
theorem c_sum : Call1 cA (rSum K) fSum := fun ast F0 H0 F ξ H env w dx d x Q I r e k => by
  unfold fSum at e
  split at e
  · split at e
    · rename_i is ei
      cases e
      obtain ⟨a, vs, rfl, h, rs⟩ := r
      obtain ⟨ev, _⟩ := toInts_vals ei rs
      subst ev
      exact ⟨a, is, rfl, SqL.of h, k F H _ I Sub.rfl' (by rw [sumI_eq]; rfl)⟩
    · cases e
  · cases e
def fAll : D → Option D
  | .lst ds => match toBls ds with
    | some is => some (.bl (is.all id))
    | none => none
  | _ => none
theorem c_all : Call1 cA (rAll K) fAll := fun ast F0 H0 F ξ H env w dx d x Q I r e k => by
  unfold fAll at e
  split at e
  · split at e
    · rename_i is ei
      cases e
      obtain ⟨a, vs, rfl, h, rs⟩ := r
      have ev := toBls_vals ei rs
      subst ev
      exact ⟨a, is, rfl, SqL.of h, k F H _ I Sub.rfl' rfl⟩
    · cases e
  · cases e
def fAny : D → Option D
  | .lst ds => match toBls ds with
    | some is => some (.bl (is.any id))
    | none => none
  | _ => none
theorem c_any : Call1 cA (rAny K) fAny := fun ast F0 H0 F ξ H env w dx d x Q I r e k => by
  unfold fAny at e
  split at e
  · split at e
    · rename_i is ei
      cases e
      obtain ⟨a, vs, rfl, h, rs⟩ := r
      have ev := toBls_vals ei rs
      subst ev
      exact ⟨a, is, rfl, SqL.of h, k F H _ I Sub.rfl' rfl⟩
    · cases e
  · cases e
def fAbs : D → Option D
  | .int i => some (.int (if i < 0 then -i else i))
  | _ => none
theorem c_abs : Call1 cA (fun xs H Q => ∃ i, xs = [.int i] ∧ Q (.int (if i < 0 then -i else i)) H) fAbs := fun ast F0 H0 F ξ H env w dx d x Q I r e k => by
  unfold fAbs at e
  split at e
  · cases e; exact ⟨_, by rw [show x = _ from r], k F H _ I Sub.rfl' rfl⟩
  · cases e
def fInt : D → Option D
  | .int i => some (.int i)
  | .bl b => some (.int (if b then 1 else 0))
  | _ => none
theorem c_int : Call1 cA (fun xs H Q => (∃ i, xs = [.int i] ∧ Q (.int i) H) ∨ ∃ k, xs = [.bl k] ∧ Q (.int (if k then 1 else 0)) H) fInt := fun ast F0 H0 F ξ H env w dx d x Q I r e k => by
  unfold fInt at e
  split at e
  · cases e; exact .inl ⟨_, by rw [show x = _ from r], k F H _ I Sub.rfl' rfl⟩
  · cases e; exact .inr ⟨_, by rw [show x = _ from r], k F H _ I Sub.rfl' rfl⟩
  · cases e
/-- tuple(x) -/
def fTuple : D → Option D
  | .lst ds => some (.tup ds)
  | .tup ds => some (.tup ds)
  | _ => none
theorem c_tuple : Call1 cA (fun xs H Q => ∃ p ys, xs = [.ref p] ∧ ((SqL K H p ys ∧ ∀ l, H l = none → Q (.ref l) (upd H l (.tup ys))) ∨ (SqT K H p ys ∧ Q (.ref p) H))) fTuple := fun ast F0 H0 F ξ H env w dx d x Q I r e k => by
  unfold fTuple at e
  split at e
  · cases e
    obtain ⟨a, vs, rfl, h, rs⟩ := r
    refine ⟨a, vs, rfl, .inl ⟨SqL.of h, fun l hl => ?_⟩⟩
    have sb := Sub.upd (F := F) (p := l) (o := .tup vs) (I.so.sub.none hl)
    exact k _ _ _ (I.alloc hl) sb ⟨l, vs, rfl, upd_same, rs.mono sb⟩
  · cases e
    obtain ⟨a, vs, rfl, h, rs⟩ := r
    exact ⟨a, vs, rfl, .inr ⟨SqT.of (I.so.sub _ _ h), k F H _ I Sub.rfl' ⟨a, vs, rfl, h, rs⟩⟩⟩
  · cases e
/-- list(x) -/
def fList : D → Option D
  | .lst ds => some (.lst ds)
  | .tup ds => some (.lst ds)
  | _ => none
theorem c_list : Call1N cA (fun xs H Q => ∃ p ys, xs = [.ref p] ∧ (SqL K H p ys ∨ SqT K H p ys) ∧ ∀ l, H l = none → Q (.ref l) (upd H l (.lst ys))) fList := fun ast F0 H0 F ξ H env w dx d x Q I r e k => by
  unfold fList at e
  split at e
  · cases e
    obtain ⟨a, vs, rfl, h, rs⟩ := r
    exact ⟨a, vs, rfl, .inl (SqL.of h), fun l hl => k _ _ (I.push hl ⟨l, vs, rfl, I.so.sub.none hl, upd_same, rs⟩)⟩
  · cases e
    obtain ⟨a, vs, rfl, h, rs⟩ := r
    exact ⟨a, vs, rfl, .inr (SqT.of (I.so.sub _ _ h)), fun l hl => k _ _ (I.push hl ⟨l, vs, rfl, I.so.sub.none hl, upd_same, rs⟩)⟩
  · cases e
theorem fList_lst : ∀ x d, fList x = some d → ∃ ds, d = .lst ds := fun x d e => by
  unfold fList at e
  split at e <;> first | (cases e; exact ⟨_, rfl⟩) | cases e

/-! ### attributes -/
def idxStr : List Str → Str → Nat → Option Nat
  | [], _, _ => none
  | x :: l, f, n => if x = f then some n else idxStr l f (n + 1)
/-- the j-th field, of the classes cs -/
def fFld (cs : List Nat) (j : Nat) : D → Option D
  | .ins c ds => if cs.elem c then ix ds j else none
  | _ => none
def evFld (cs : List Nat) (j : Nat) (t : TEv) : TEv := evUn (fFld cs j) t
/-- what a class must have for a field -/
structure FldOk (K : PySem.W.Frag) (cA : Nat → Addr) (c j : Nat) (f : Str) : Prop where
  cl : Cls K (cA c)
  no : NoAttr K (cA c) f
  at_ : (fN c)[j]? = some f
  pre : ∀ i, i < j → (fN c)[i]? ≠ some f
theorem lookup_zip {f : Str} : ∀ {ns : List Str} {vs : List V} {j : Nat} {v : V}, ns[j]? = some f → (∀ i, i < j → ns[i]? ≠ some f) → vs[j]? = some v → (ns.zip vs).lookup f = some v
  | [], _, _, _, h, _, _ => by simp at h
  | _ :: _, [], _, _, _, _, h => by simp at h
  | n :: ns, u :: vs, 0, v, h1, _, h2 => by
    simp at h1 h2
    subst h1 h2
    simp [List.zip_cons_cons, List.lookup_cons]
  | n :: ns, u :: vs, j + 1, v, h1, hp, h2 => by
    have hn : (f == n) = false := by
      rw [beq_eq_false_iff_ne]
      intro e
      exact hp 0 (Nat.succ_pos _) (by simp [e])
    rw [List.zip_cons_cons, List.lookup_cons, hn]
    exact lookup_zip (by simpa using h1) (fun i hi => by have := hp (i + 1) (by omega); simpa using this) (by simpa using h2)
theorem o_fld {cs : List Nat} {j : Nat} {f : Str} (ok : ∀ c ∈ cs, FldOk K cA c j f) : ∀ ast F0 H0 F ξ H env w dx d x (Q : VK), SR cA ast F0 H0 F ξ H env w → RelB cA ast F H dx x → fFld cs j dx = some d →
    (∀ F' H' v, SR cA ast F0 H0 F' ξ H' env w → Sub F F' → RelD cA ast F' d v → Q v H') → ∃ a C dx' fs v, x = .ref a ∧ H a = some (.ins C dx' fs) ∧ Cls K C ∧ NoAttr K C f ∧ fs.lookup f = some v ∧ Q v H := fun ast F0 H0 F ξ H env w dx d x Q I r e k => by
  cases dx with
  | ins c ds =>
    simp only [fFld] at e
    split at e
    · rename_i hc
      have hc' : c ∈ cs := by simpa using hc
      obtain ⟨a, dx', vs, rfl, h, rs⟩ := r
      rw [ix_eq] at e
      obtain ⟨v, ev, rv⟩ := rs.get e
      have o := ok c hc'
      exact ⟨a, cA c, dx', _, v, rfl, h, o.cl, o.no, lookup_zip o.at_ o.pre ev, k F H v I Sub.rfl' rv⟩
    · cases e
  | _ => cases e
theorem pE_fld {cs : List Nat} {j : Nat} {f : Str} (ok : ∀ c ∈ cs, FldOk X.K cA c j f) (he : PE X e (rdB cA te)) (hb : attributeBase e f X.env (eval e X.env) = eval e X.env := by rfl) : PE X (.Attribute e f pos) (rdE cA (evFld cs j te)) :=
  PE.imp (pe_fld he hb) fun σ H Q ⟨ast, F0, H0, F, τ, env, w, d, env', w', I, ee, k⟩ => by
    obtain ⟨y, e1, e2⟩ := evUn_some ee
    exact rdB_mk I e1 fun F1 H1 v1 I1 s1 r1 => o_fld ok ast F0 H0 F1 _ H1 env' w' y d v1 Q I1 r1 e2 fun F2 H2 v2 I2 s2 r2 => k F2 H2 v2 I2 (s1.trans s2) r2

/-! ### places -/
def atD (ds : List D) : Int → Option D
  | .ofNat n => ix ds n
  | .negSucc n => if Nat.blt n ds.length then ix ds (ds.length - (n + 1)) else none
theorem atD_eq (ds : List D) (k : Int) : atD ds k = atI ds k := by
  unfold atI ixN
  cases k with
  | ofNat n =>
    show ix ds n = _
    rw [ix_eq]
    have h0 : (0 : Int) ≤ Int.ofNat n := Int.natCast_nonneg n
    rw [if_pos h0]
    by_cases h : n < ds.length
    · have h' : (Int.ofNat n) < (ds.length : Int) := by show (n : Int) < _; omega
      rw [if_pos h']; rfl
    · have h' : ¬ (Int.ofNat n) < (ds.length : Int) := by show ¬ (n : Int) < _; omega
      rw [if_neg h']
      exact List.getElem?_eq_none (by omega)
  | negSucc n =>
    show (if Nat.blt n ds.length = true then ix ds (ds.length - (n + 1)) else none) = _
    have h0 : ¬ (0 : Int) ≤ Int.negSucc n := by omega
    rw [if_neg h0, ix_eq]
    by_cases h : n < ds.length
    · have h' : -(ds.length : Int) ≤ Int.negSucc n := by omega
      have e1 : (Int.negSucc n + (ds.length : Int)).toNat = ds.length - (n + 1) := by omega
      rw [if_pos (Nat.blt_eq.mpr h), if_pos h', e1]; rfl
    · have h' : ¬ -(ds.length : Int) ≤ Int.negSucc n := by omega
      rw [if_neg (fun q => h (Nat.blt_eq.mp q)), if_neg h']; rfl
theorem atI_rel {ast : Addr} {F : Hp} {ds : List D} {vs : List V} {k : Int} {d : D} (r : RelDs cA ast F ds vs) (h : atD ds k = some d) : ∃ v, atI vs k = some v ∧ RelD cA ast F d v := by
  rw [atD_eq] at h
  unfold atI at h ⊢
  rw [r.length] at h
  cases q : ixN vs.length k with
  | none => rw [q] at h; cases h
  | some j => rw [q] at h; exact r.get h
def rIxLT (K : PySem.W.Frag) : R2 := fun x y H Q => rIxL K x y H Q ∨ rIxT K x y H Q
theorem ix_LT : IxR X (rIxLT X.K) := ix_list.or ix_tup
/-- x[k] -/
def fIx (w : W) : D → Int → Option D
  | .lst ds, k => atD ds k
  | .tup ds, k => atD ds k
  | .st, k => atD [.int w.1, .int w.2] k
  | _, _ => none
theorem o_ix {ast F0 H0 F ξ H env w} {dx d : D} {k : Int} {x : V} {Q : VK} (I : SR cA ast F0 H0 F ξ H env w) (r : RelB cA ast F H dx x) (e : fIx w dx k = some d)
    (kk : ∀ F' H' v, SR cA ast F0 H0 F' ξ H' env w → Sub F F' → RelD cA ast F' d v → Q v H') : rIxLT K x (.int k) H Q := by
  unfold fIx at e
  split at e
  · obtain ⟨a, vs, rfl, h, rs⟩ := r
    obtain ⟨v, ev, rv⟩ := atI_rel rs e
    exact .inl ⟨a, vs, _, v, rfl, rfl, SqL.of h, ev, kk F H v I Sub.rfl' rv⟩
  · obtain ⟨a, vs, rfl, h, rs⟩ := r
    obtain ⟨v, ev, rv⟩ := atI_rel rs e
    exact .inr ⟨a, vs, _, v, rfl, rfl, SqT.of (I.so.sub _ _ h), ev, kk F H v I Sub.rfl' rv⟩
  · cases r
    have rs : RelDs cA ast F [.int w.1, .int w.2] [V.int w.1, V.int w.2] := RelDs.cons rfl (RelDs.one rfl)
    obtain ⟨v, ev, rv⟩ := atI_rel rs e
    exact .inl ⟨ast, _, _, v, rfl, rfl, SqL.of I.so.hst, ev, kk F H v I Sub.rfl' rv⟩
  · cases e
def evIx (ta tb : TEv) : TEv := fun env w => match ta env w with
  | some (x, env, w) => match tb env w with
    | some (.int k, env, w) => match fIx w x k with
      | some d => some (d, env, w)
      | none => none
    | _ => none
  | none => none
/-- a name's item -/
def evIxN (i : Nat) (tb : TEv) : TEv := fun env w => match look env i with
  | none => none
  | some _ => match tb env w with
    | some (.int k, env, w) => match look env i with
      | some x => match fIx w x k with
        | some d => some (d, env, w)
        | none => none
      | none => none
    | _ => none
theorem pE_ix (ha : PE X a (rdE cA ta)) (hb : PE X b (rdE cA tb)) (hs : PlainIx b) : PE X (.Subscript a b pos) (rdE cA (evIx ta tb)) :=
  PE.imp (pe_ix ix_LT ha hb hs) fun σ H Q ⟨ast, F0, H0, F, τ, env, w, d, env', w', I, ee, k⟩ => by
    unfold evIx at ee
    split at ee
    · rename_i y env1 w1 e1
      split at ee
      · rename_i n env2 w2 e2
        split at ee
        · rename_i d' e3
          cases ee
          exact rdE_mk I e1 fun F1 H1 v1 I1 s1 r1 => rdE_mk I1 e2 fun F2 H2 v2 I2 s2 r2 => by
            cases r2
            exact o_ix I2 (RelB.of I2.so.sub (RelD.mono s2 _ _ r1)) e3 fun F3 H3 v3 I3 s3 r3 => k F3 H3 v3 I3 (s1.trans (s2.trans s3)) r3
        · cases ee
      · cases ee
    · cases ee
theorem pE_ixN {i : Nat} {x : Str} {p : Pos} (h : PE X (.Name x p) (tVar i)) (hi : i < X.N.length) (hb : PE X b (rdE cA tb)) (hs : PlainIx b) : PE X (.Subscript (.Name x p) b pos) (rdE cA (evIxN i tb)) := by
  have base := pe_ix (pos := pos) ix_LT h hb hs
  refine ⟨fun pins s σ H Q I q => base.run pins s σ H Q I ?_⟩
  obtain ⟨ast, F0, H0, F, τ, env, w, d, env', w', J, ee, k⟩ := q
  unfold evIxN at ee
  split at ee
  · cases ee
  · rename_i y0 e0
    obtain ⟨s0, e01, e02⟩ := look_some e0
    obtain ⟨v, hv, _⟩ := J.see e01 e02
    split at ee
    · rename_i n env2 w2 e2
      split at ee
      · rename_i y e3
        split at ee
        · rename_i d' e4
          cases ee
          obtain ⟨s5, e5, e6⟩ := look_some e3
          refine ⟨v, at_left hv (by rw [I.len]; exact hi), rdE_mk J e2 fun F2 H2 v2 I2 s2 r2 => ?_⟩
          cases r2
          obtain ⟨v', e7, r7⟩ := I2.see e5 e6
          rw [hv] at e7
          cases e7
          exact o_ix I2 r7 e4 fun F3 H3 v3 I3 s3 r3 => k F3 H3 v3 I3 (s2.trans s3) r3
        · cases ee
      · cases ee
    · cases ee
/-! ### slices -/
def cutD (ds : List D) (lo hi : Option Int) : List D := (ds.drop (HT.sIx ds.length 0 lo)).take (HT.sIx ds.length ds.length hi - HT.sIx ds.length 0 lo)
theorem cutD_rel {ast : Addr} {F : Hp} {ds : List D} {vs : List V} {lo hi : Option Int} (r : RelDs cA ast F ds vs) : RelDs cA ast F (cutD ds lo hi) (cutV vs lo hi) := by
  unfold cutD cutV
  rw [r.length]
  exact (r.drop _).take _
def fSl (lo hi : Option Int) : D → Option D
  | .lst ds => some (.lst (cutD ds lo hi))
  | .tup ds => some (.tup (cutD ds lo hi))
  | _ => none
def rSlLT (K : PySem.W.Frag) : V → Option Int → Option Int → Hp → VK → Prop := fun x lo hi H Q => rSlL K x lo hi H Q ∨ rSlA K x lo hi H Q
theorem sl_LT : SlR X (rSlLT X.K) := sl_list.or sl_tupA
theorem o_sl {ast F0 H0 F ξ H env w} {dx d : D} {lo hi : Option Int} {x : V} {Q : VK} (I : SR cA ast F0 H0 F ξ H env w) (r : RelB cA ast F H dx x) (e : fSl lo hi dx = some d)
    (k : ∀ F' H' v, SR cA ast F0 H0 F' ξ H' env w → Sub F F' → RelD cA ast F' d v → Q v H') : rSlLT K x lo hi H Q := by
  unfold fSl at e
  split at e
  · cases e
    obtain ⟨a, vs, rfl, h, rs⟩ := r
    refine .inl ⟨a, vs, rfl, SqL.of h, fun p hp => ?_⟩
    have sb := Sub.upd (F := F) (p := p) (o := .lst (cutV vs lo hi)) (I.so.sub.none hp)
    exact k _ _ _ (I.alloc hp) sb ⟨p, _, rfl, upd_same, (cutD_rel rs).mono sb⟩
  · cases e
    obtain ⟨a, vs, rfl, h, rs⟩ := r
    refine .inr ⟨a, vs, rfl, SqT.of (I.so.sub _ _ h), fun hw => ?_, fun _ p hp => ?_⟩
    · have e1 : cutV vs lo hi = vs := by unfold cutV; rw [hw.1, hw.2]; simp
      refine k F H _ I Sub.rfl' ⟨a, vs, rfl, h, ?_⟩
      have := cutD_rel (lo := lo) (hi := hi) rs
      rwa [e1] at this
    · have sb := Sub.upd (F := F) (p := p) (o := .tup (cutV vs lo hi)) (I.so.sub.none hp)
      exact k _ _ _ (I.alloc hp) sb ⟨p, _, rfl, upd_same, (cutD_rel rs).mono sb⟩
  · cases e
/-- a part of a slice -/
abbrev TOv := Env → W → Option (Option Int × Env × W)
def rdO (cA : Nat → Addr) (t : TOv) : TO := rdG cA (fun _ _ _ _ _ d b => b = d) t
theorem rdO_mk {t : TOv} {σ : St} {H : Hp} {Q : Option Int → Hp → Prop} {ast F0 H0 F τ env w d env' w'} (I : SR cA ast F0 H0 F (σ ++ τ) H env w) (e : t env w = some (d, env', w'))
    (k : ∀ F' H', SR cA ast F0 H0 F' (σ ++ τ) H' env' w' → Sub F F' → Q d H') : rdO cA t σ H Q := ⟨ast, F0, H0, F, τ, env, w, d, env', w', I, e, fun F' H' v I s r => by cases r; exact k F' H' I s⟩
theorem PO.imp {e : Option Expr} {t t' : TO} (h : PO X e t) (i : ∀ σ H Q, t' σ H Q → t σ H Q) : PO X e t' := ⟨fun p s σ H Q I q => h.run p s σ H Q I (i _ _ _ q)⟩
def evNoP : TOv := fun env w => some (none, env, w)
def evP (t : TEv) : TOv := fun env w => match t env w with
  | some (.int k, env, w) => some (some k, env, w)
  | _ => none
theorem pO_none : PO X none (rdO cA evNoP) := PO.imp po_none fun σ H Q ⟨ast, F0, H0, F, τ, env, w, d, env', w', I, ee, k⟩ => by
  cases ee
  exact k F H _ I Sub.rfl' rfl
theorem pO_some {t : TEv} (h : PE X e (rdE cA t)) : PO X (some e) (rdO cA (evP t)) := PO.imp (po_some h) fun σ H Q ⟨ast, F0, H0, F, τ, env, w, d, env', w', I, ee, k⟩ => by
  unfold evP at ee
  split at ee
  · rename_i n env1 w1 e1
    cases ee
    exact rdE_mk I e1 fun F1 H1 v1 I1 s1 r1 => ⟨n, r1, k F1 H1 _ I1 s1 rfl⟩
  · cases ee
def evSl (t : TEv) (tl th : TOv) : TEv := fun env w => match t env w with
  | some (x, env, w) => match tl env w with
    | some (lo, env, w) => match th env w with
      | some (hi, env, w) => match fSl lo hi x with
        | some d => some (d, env, w)
        | none => none
      | none => none
    | none => none
  | none => none
theorem pE_sl {t : TEv} {tl th : TOv} {lo hi : Option Expr} {p2 : Pos} (he : PE X e (rdE cA t)) (hl : PO X lo (rdO cA tl)) (hh : PO X hi (rdO cA th)) : PE X (.Subscript e (.Slice lo hi none p2) pos) (rdE cA (evSl t tl th)) :=
  PE.imp (pe_slice sl_LT he hl hh) fun σ H Q ⟨ast, F0, H0, F, τ, env, w, d, env', w', I, ee, k⟩ => by
    unfold evSl at ee
    split at ee
    · rename_i y env1 w1 e1
      split at ee
      · rename_i l env2 w2 e2
        split at ee
        · rename_i h env3 w3 e3
          split at ee
          · rename_i d' e4
            cases ee
            exact rdE_mk I e1 fun F1 H1 v1 I1 s1 r1 => rdO_mk I1 e2 fun F2 H2 I2 s2 => rdO_mk I2 e3 fun F3 H3 I3 s3 =>
              o_sl I3 (RelB.of I3.so.sub (RelD.mono (s2.trans s3) _ _ r1)) e4 fun F4 H4 v4 I4 s4 r4 => k F4 H4 v4 I4 (s1.trans (s2.trans (s3.trans s4))) r4
          · cases ee
        · cases ee
      · cases ee
    · cases ee
end Ev

namespace Ev
open PySem L2
variable {cA : Nat → Addr} {X : Cx} {a b c e : Expr} {ta tb tc te : TEv} {pos : Pos} {K : PySem.W.Frag}

/-! ### arguments of a def -/
inductive Arg where
  | val (d : D)
  | slot (i : Nat)
abbrev TGv := Env → W → Option (List Arg × Env × W)
def ArgRel (cA : Nat → Addr) (ast : Addr) (F : Hp) (ξ : St) : Arg → V → Prop
  | .val d, v => RelD cA ast F d v
  | .slot i, v => at_ ξ i = some v
def ArgRels (cA : Nat → Addr) (ast : Addr) (F : Hp) (ξ : St) : List Arg → List V → Prop
  | [], vs => vs = []
  | a :: as, vs => ∃ v r, vs = v :: r ∧ ArgRel cA ast F ξ a v ∧ ArgRels cA ast F ξ as r
theorem ArgRel.mono {ast : Addr} {F F' : Hp} {ξ : St} (s : Sub F F') : ∀ {a : Arg} {v : V}, ArgRel cA ast F ξ a v → ArgRel cA ast F' ξ a v
  | .val d, _, h => RelD.mono s _ _ h
  | .slot i, _, h => h
def rdR (cA : Nat → Addr) (t : TGv) : TA := rdG cA (fun ast F _ ξ _ as vs => ArgRels cA ast F ξ as vs) t
theorem rdR_mk {t : TGv} {σ : St} {H : Hp} {Q : List V → Hp → Prop} {ast F0 H0 F τ env w d env' w'} (I : SR cA ast F0 H0 F (σ ++ τ) H env w) (e : t env w = some (d, env', w'))
    (k : ∀ F' H' v, SR cA ast F0 H0 F' (σ ++ τ) H' env' w' → Sub F F' → ArgRels cA ast F' (σ ++ τ) d v → Q v H') : rdR cA t σ H Q := ⟨ast, F0, H0, F, τ, env, w, d, env', w', I, e, k⟩
def agNil : TGv := fun env w => some ([], env, w)
def agCons (ta : TEv) (tr : TGv) : TGv := fun env w => match ta env w with
  | some (x, env, w) => match tr env w with
    | some (xs, env, w) => some (.val x :: xs, env, w)
    | none => none
  | none => none
def agName (i : Nat) (tr : TGv) : TGv := fun env w => match look env i with
  | some _ => match tr env w with
    | some (xs, env, w) => some (.slot i :: xs, env, w)
    | none => none
  | none => none
theorem aG_nil : PA X [] (rdR cA agNil) := PA.imp pa_nil fun σ H Q ⟨ast, F0, H0, F, τ, env, w, d, env', w', I, e, k⟩ => by
  cases e
  exact k F H [] I Sub.rfl' rfl
theorem aG_cons {es : List Expr} {tr : TGv} (ha : PE X e (rdE cA ta)) (hr : PA X es (rdR cA tr)) (hs : starEach (e :: es) X.env = (false, eval e X.env) :: starEach es X.env := by rfl) : PA X (e :: es) (rdR cA (agCons ta tr)) :=
  PA.imp (pa_cons ha hr hs) fun σ H Q ⟨ast, F0, H0, F, τ, env, w, d, env', w', I, ee, k⟩ => by
    unfold agCons at ee
    split at ee
    · rename_i x env1 w1 e1
      split at ee
      · rename_i xs env2 w2 e2
        cases ee
        exact rdE_mk I e1 fun F1 H1 v1 I1 s1 r1 => rdR_mk I1 e2 fun F2 H2 v2 I2 s2 r2 => k F2 H2 _ I2 (s1.trans s2) ⟨v1, v2, rfl, RelD.mono s2 _ _ r1, r2⟩
      · cases ee
    · cases ee
theorem aG_name {i : Nat} {x : Str} {p : Pos} {es : List Expr} {tr : TGv} (h : PE X (.Name x p) (tVar i)) (hi : i < X.N.length) (hr : PA X es (rdR cA tr)) (hs : starEach (.Name x p :: es) X.env = (false, eval (.Name x p) X.env) :: starEach es X.env := by rfl) : PA X (.Name x p :: es) (rdR cA (agName i tr)) := by
  have base := pa_cons h hr hs
  refine ⟨fun ps pins s σ H Q I q => base.run ps pins s σ H Q I ?_⟩
  obtain ⟨ast, F0, H0, F, τ, env, w, d, env', w', J, ee, k⟩ := q
  unfold agName at ee
  split at ee
  · rename_i y e0
    obtain ⟨s0, e01, e02⟩ := look_some e0
    obtain ⟨v, hv, _⟩ := J.see e01 e02
    split at ee
    · rename_i xs env2 w2 e2
      cases ee
      exact ⟨v, at_left hv (by rw [I.len]; exact hi), rdR_mk J e2 fun F2 H2 v2 I2 s2 r2 => k F2 H2 _ I2 s2 ⟨v, v2, rfl, hv, r2⟩⟩
    · cases ee
  · cases ee
/-- what the callee sees -/
def toBor : SV → Option SV
  | .fr d => some (.fr d)
  | .own d => some (.bor d)
  | .bor d => some (.bor d)
  | .no => none
def resolve (env : Env) : List Arg → Option (List SV)
  | [] => some []
  | .val d :: as => match resolve env as with
    | some r => some (.fr d :: r)
    | none => none
  | .slot i :: as => match ix env i with
    | some s => match toBor s with
      | some s => match resolve env as with
        | some r => some (s :: r)
        | none => none
      | none => none
    | none => none
def ArgOk (cA : Nat → Addr) (ast : Addr) (F H : Hp) : SV → V → Prop
  | .fr d, v => RelD cA ast F d v
  | .bor d, v => RelU cA ast F H d v ∧ ∀ a, v = .ref a → a ≠ ast
  | _, _ => False
def ArgsOk (cA : Nat → Addr) (ast : Addr) (F H : Hp) : List SV → List V → Prop
  | [], vs => vs = []
  | a :: as, vs => ∃ v r, vs = v :: r ∧ ArgOk cA ast F H a v ∧ ArgsOk cA ast F H as r
theorem ArgsOk.length {ast : Addr} {F H : Hp} : ∀ {as : List SV} {vs : List V}, ArgsOk cA ast F H as vs → as.length = vs.length
  | [], _, h => by cases h; rfl
  | _ :: as, _, ⟨v, r, e, _, h⟩ => by subst e; simp [ArgsOk.length h]
theorem ArgsOk.get {ast : Addr} {F H : Hp} : ∀ {as : List SV} {vs : List V} {i : Nat} {s : SV}, ArgsOk cA ast F H as vs → as[i]? = some s → ∃ v, vs[i]? = some v ∧ ArgOk cA ast F H s v
  | [], _, _, _, _, h => by simp at h
  | _ :: as, _, 0, s, ⟨v, r, e, h1, _⟩, h => by subst e; simp at h; subst h; exact ⟨v, rfl, h1⟩
  | _ :: as, _, i + 1, s, ⟨v, r, e, _, h2⟩, h => by
    subst e
    obtain ⟨u, e1, e2⟩ := ArgsOk.get (i := i) h2 (by simpa using h)
    exact ⟨u, by simpa using e1, e2⟩
theorem ArgsOk.app {ast : Addr} {F H : Hp} : ∀ {as bs : List SV} {vs us : List V}, ArgsOk cA ast F H as vs → ArgsOk cA ast F H bs us → ArgsOk cA ast F H (as ++ bs) (vs ++ us)
  | [], _, _, _, h, g => by cases h; exact g
  | _ :: as, _, _, _, ⟨v, r, e, h1, h2⟩, g => by subst e; exact ⟨v, _, rfl, h1, ArgsOk.app h2 g⟩
theorem resolve_ok {ast F0 H0 F ξ H env w} (I : SR cA ast F0 H0 F ξ H env w) : ∀ {as : List Arg} {vs : List V} {svs : List SV}, ArgRels cA ast F ξ as vs → resolve env as = some svs → ArgsOk cA ast F H svs vs
  | [], _, _, h, e => by cases h; simp only [resolve] at e; cases e; rfl
  | .val d :: as, _, _, ⟨v, r, ev, h1, h2⟩, e => by
    subst ev
    simp only [resolve] at e
    split at e
    · rename_i q eq
      cases e
      exact ⟨v, r, rfl, h1, resolve_ok I h2 eq⟩
    · cases e
  | .slot i :: as, _, _, ⟨v, r, ev, h1, h2⟩, e => by
    subst ev
    simp only [resolve] at e
    split at e
    · rename_i s es
      rw [ix_eq] at es
      split at e
      · rename_i s2 es2
        split at e
        · rename_i q eq
          cases e
          refine ⟨v, r, rfl, ?_, resolve_ok I h2 eq⟩
          have z := I.slots _ _ es
          have h1 : at_ ξ i = some v := h1
          rw [h1] at z
          cases s with
          | no => cases es2
          | fr d => cases es2; obtain ⟨u, eu, r⟩ := z; cases eu; exact r
          | own d => cases es2; obtain ⟨u, eu, r, k, _⟩ := z; cases eu; exact ⟨r, fun a ea => (k a ea).2⟩
          | bor d => cases es2; obtain ⟨u, eu, r, k⟩ := z; cases eu; exact ⟨r, fun a ea => (k a ea).2⟩
        · cases e
      · cases e
    · cases e

/-! ### what a def of ours promises -/
abbrev Fv := List SV → W → Option (D × W)
def spOf (cA : Nat → Addr) (n : Nat) (f : Fv) : Sp := fun vs H Q _ => vs.length = n ∧ ∃ ast F svs w d w', StOk ast F H w ∧ ArgsOk cA ast F H svs vs ∧ f svs w = some (d, w') ∧
  ∀ F' H' v, Fx ast F H F' H' → StOk ast F' H' w' → RelD cA ast F' d v → Q v H'
/-- .. an __init__: the fields -/
abbrev Iv := List SV → W → Option (List D × W)
def spIn (cA : Nat → Addr) (cl n : Nat) (f : Iv) : Sp := fun vs H Q _ => vs.length = n + 1 ∧ ∃ ast F H1 svs w ds w' x dx rest, vs = .ref x :: rest ∧ H = upd (upd H1 dx (.own x)) x (.ins (cA cl) dx []) ∧ H1 x = none ∧ H1 dx = none ∧ dx ≠ x ∧
  StOk ast F H1 w ∧ ArgsOk cA ast F H1 svs rest ∧ f svs w = some (ds, w') ∧ ∀ F' H', Fx ast F H1 F' H' → StOk ast F' H' w' → RelU cA ast F' H' (.ins cl ds) (.ref x) → Q .non H'
/-- defaults: values that need no heap -/
structure DefOk (cA : Nat → Addr) (dds : List D) (dvs : List V) : Prop where
  ok : ∀ ast F H, ArgsOk cA ast F H (dds.map SV.fr) dvs
theorem defNil : DefOk cA [] [] := ⟨fun _ _ _ => rfl⟩
theorem defInt {i : Int} : DefOk cA [.int i] [.int i] := ⟨fun _ _ _ => ⟨_, _, rfl, rfl, rfl⟩⟩

def evCall (n : Nat) (f : Fv) (dds : List D) (args : TGv) : TEv := fun env w => match args env w with
  | some (as, env, w) => match resolve env as with
    | some svs => match Nat.beq (svs.length + dds.length) n with
      | true => match f (svs ++ dds.map SV.fr) w with
        | some (d, w) => some (d, env, w)
        | none => none
      | false => none
    | none => none
  | none => none
theorem evCall_some {n : Nat} {f : Fv} {dds : List D} {args : TGv} {env : Env} {w : W} {d : D} {env' : Env} {w' : W} (e : evCall n f dds args env w = some (d, env', w')) :
    ∃ as w1 svs, args env w = some (as, env', w1) ∧ resolve env' as = some svs ∧ svs.length + dds.length = n ∧ f (svs ++ dds.map SV.fr) w1 = some (d, w') := by
  unfold evCall at e
  split at e
  · rename_i as env1 w1 e1
    split at e
    · rename_i svs e2
      split at e
      · rename_i hn
        split at e
        · rename_i d' w2 e3
          cases e
          exact ⟨as, w1, svs, e1, e2, Nat.eq_of_beq_eq_true hn, e3⟩
        · cases e
      · cases e
    · cases e
  · cases e
/-- a new instance: its fields by __init__ -/
def evMake (cl n : Nat) (f : Iv) (dds : List D) (args : TGv) : TEv := fun env w => match args env w with
  | some (as, env, w) => match resolve env as with
    | some svs => match Nat.beq (svs.length + dds.length) n with
      | true => match f (svs ++ dds.map SV.fr) w with
        | some (ds, w) => some (.ins cl ds, env, w)
        | none => none
      | false => none
    | none => none
  | none => none
theorem evMake_some {cl n : Nat} {f : Iv} {dds : List D} {args : TGv} {env : Env} {w : W} {d : D} {env' : Env} {w' : W} (e : evMake cl n f dds args env w = some (d, env', w')) :
    ∃ as w1 svs ds, args env w = some (as, env', w1) ∧ resolve env' as = some svs ∧ svs.length + dds.length = n ∧ f (svs ++ dds.map SV.fr) w1 = some (ds, w') ∧ d = .ins cl ds := by
  unfold evMake at e
  split at e
  · rename_i as env1 w1 e1
    split at e
    · rename_i svs e2
      split at e
      · rename_i hn
        split at e
        · rename_i d' w2 e3
          cases e
          exact ⟨as, w1, svs, d', e1, e2, Nat.eq_of_beq_eq_true hn, e3, rfl⟩
        · cases e
      · cases e
    · cases e
  · cases e
/-- one's own object is frozen, wherever it stands -/
theorem SR.cool {ast F0 H0 F ξ H env w} (I : SR cA ast F0 H0 F ξ H env w) {p : Addr} {o : HO} (h0 : H0 p = none) (hp : H p = some o) (fp : F p = none) (pa : p ≠ ast) (no : ∀ (j : Nat) d, env[j]? = some (.own d) → at_ ξ j = some (.ref p) → False)  :
    SR cA ast F0 H0 (upd F p o) ξ H env w := by
  have sb : Sub F (upd F p o) := Sub.upd fp
  have nw : ∀ b, upd F p o b ≠ none → F b ≠ none ∨ b = p := fun b hb => by
    by_cases e : b = p
    · exact .inr e
    · rw [upd_ne e] at hb; exact .inl hb
  refine ⟨⟨I.fx.fz.trans sb, I.fx.hk, fun b hb => (nw b hb).elim (I.fx.new b) fun e => .inr (.inl (e ▸ h0))⟩, ⟨fun b u hb => ?_, by rw [upd_ne pa.symm]; exact I.so.fst, I.so.hst⟩, fun j s e => ?_, I.dist, I.len⟩
  · by_cases e : b = p
    · subst e; rw [upd_same] at hb; cases hb; exact hp
    · rw [upd_ne e] at hb; exact I.so.sub _ _ hb
  · have q := I.slots j s e
    have keep : ∀ {d : D} {v : V}, RelU cA ast F H d v → v ≠ .ref p → RelU cA ast (upd F p o) H d v := fun {d v} r' nv => by
      obtain ⟨b, o', eb, fb, hb⟩ := r'.at
      have nb : b ≠ p := fun z => nv (by rw [eb, z])
      cases d with
      | lst es => obtain ⟨c, us, ec, f1, h1, r1⟩ := r'; rw [eb] at ec; cases ec; exact ⟨b, us, eb, by rw [upd_ne nb]; exact f1, h1, r1.mono sb⟩
      | ins cc es => obtain ⟨c, dx, us, ec, f1, h1, l1, r1⟩ := r'; rw [eb] at ec; cases ec; exact ⟨b, dx, us, eb, by rw [upd_ne nb]; exact f1, h1, l1, r1.mono sb⟩
      | dic t ks es => obtain ⟨c, ec, f1, h1⟩ := r'; rw [eb] at ec; cases ec; exact ⟨b, eb, by rw [upd_ne nb]; exact f1, DicAt.keep sb (fun _ z => z) h1⟩
      | _ => exact r'.elim
    cases s with
    | no => trivial
    | fr d => obtain ⟨v', e2, r'⟩ := q; exact ⟨v', e2, r'.mono sb⟩
    | bor d => obtain ⟨v', e2, r', k'⟩ := q; exact ⟨v', e2, keep r' (fun z => (k' p z).1 h0), k'⟩
    | own d => obtain ⟨v', e2, r', k', m'⟩ := q; exact ⟨v', e2, keep r' (fun z => no j d e (z ▸ e2)), k', m'⟩
section
variable {k : Nat} {f C : Addr} {fd : FuncData} {ps : List Str} {dvs : List V} {ds : List Value} {dds : List D} {x : Str} {p : Pos} {es : List Expr} {t : TGv} {g : Fv} {gi : Iv} {n cl : Nat}
theorem rd_call (hd : DefOk cA dds dvs) {σ : St} {H : Hp} {Q : VK} (q : rdE cA (evCall n g dds t) σ H Q) :
    tCall (spOf cA n g) dvs E0 (rdR cA t) σ H Q := by
  obtain ⟨ast, F0, H0, F, τ, env, w, d, env', w', I, e, kk⟩ := q
  obtain ⟨as, w1, svs, e1, e2, hn, e3⟩ := evCall_some e
  refine rdR_mk I e1 fun F1 H1 vs I1 s1 r1 => ?_
  have ok := resolve_ok I1 r1 e2
  have okd := hd.ok ast F1 H1
  refine ⟨?_, ast, F1, _, w1, d, w', I1.so, ok.app okd, e3, fun F2 H2 v fx so r2 => kk F2 H2 v (I1.step fx so) (s1.trans fx.fz) r2⟩
  have h2 := okd.length
  rw [List.length_map] at h2
  rw [List.length_append, ← ok.length, ← h2]
  exact hn
theorem pE_call (F : FnOk X.prog X.w X.K X.mg X.base CX0 k f fd ps (spOf cA n g)) (hr : Room k X.A) (hg : Gl X x) (hm : X.mg x = some (.ref f)) (hk : PySem.W.keepIn X.K (.ref f) = true) (hb : Binds X.K fd ps ds) (hv : Vals dvs ds) (hd : DefOk cA dds dvs)
    (ha : PA X (e :: es) (rdR cA t)) (hdb : (x == ("__debug__" : Str)) = false := by decide) (he : starEach (e :: es) X.env = (false, eval e X.env) :: starEach es X.env := by rfl) (hpl : (backTo pos (starEach es X.env)).any (·.1) = false := by rfl) :
    PE X (.Call (.Name x p) (e :: es) [] pos) (rdE cA (evCall n g dds t)) :=
  PE.imp (pe_call F hr hg hm hk hb hv pass0 ha hdb he hpl) fun σ H Q q => rd_call hd q
theorem rd_make (hd : DefOk cA dds dvs) {σ : St} {H : Hp} {Q : VK} (q : rdE cA (evMake cl n gi dds t) σ H Q) :
    tMake (cA cl) (spIn cA cl n gi) dvs E0 (rdR cA t) σ H Q := by
  obtain ⟨ast, F0, H0, F, τ, env, w, d, env', w', I, e, kk⟩ := q
  obtain ⟨as, w1, svs, fs, e1, e2, hn, e3, rfl⟩ := evMake_some e
  refine rdR_mk I e1 fun F1 H1 vs I1 s1 r1 x dx nx ndx nex => ?_
  have ok := resolve_ok I1 r1 e2
  have okd := hd.ok ast F1 H1
  have h2 := okd.length
  rw [List.length_map] at h2
  refine ⟨?_, ast, F1, H1, _, w1, fs, w', x, dx, _, rfl, rfl, nx, ndx, nex, I1.so, ok.app okd, e3, fun F2 H2 fx so r2 => ⟨rfl, ?_⟩⟩
  · rw [List.length_cons, List.length_append, ← ok.length, ← h2, hn]
  · have I2 := I1.step fx so
    obtain ⟨a, dx', us, ea, fa, ha, hl, rs⟩ := r2
    cases ea
    have pa : x ≠ ast := fun z => by subst z; rw [I1.so.hst] at nx; cases nx
    have h0 : H0 x = none := by
      cases q : H0 x with
      | none => rfl
      | some u => rw [I1.fx.hk x u pa q] at nx; cases nx
    have J := I2.cool h0 ha fa pa fun j c e4 e5 => by
      obtain ⟨v, e6, r6, _⟩ := I1.slots _ _ e4
      rw [e5] at e6
      cases e6
      obtain ⟨b, o, eb, _, hb⟩ := r6.at
      cases eb
      rw [nx] at hb; cases hb
    have sb := Sub.upd (F := F2) (p := x) (o := .ins (cA cl) dx' ((fN cl).zip us)) fa
    exact kk _ _ _ J (s1.trans (fx.fz.trans sb)) ⟨x, dx', us, rfl, upd_same, rs.mono sb⟩
theorem pE_make (M : Mk X.K (cA cl) f) (F : FnOk X.prog X.w X.K X.mg X.base CX0 k f fd ps (spIn cA cl n gi)) (hr : Room (k + 1) X.A) (hg : Gl X x) (hm : X.mg x = some (.ref (cA cl))) (hb : Binds X.K fd ps ds) (hv : Vals dvs ds) (hd : DefOk cA dds dvs)
    (ha : PA X (e :: es) (rdR cA t)) (hdb : (x == ("__debug__" : Str)) = false := by decide) (he : starEach (e :: es) X.env = (false, eval e X.env) :: starEach es X.env := by rfl) (hpl : (backTo pos (starEach es X.env)).any (·.1) = false := by rfl) :
    PE X (.Call (.Name x p) (e :: es) [] pos) (rdE cA (evMake cl n gi dds t)) :=
  PE.imp (pe_make M F hr hg hm hb hv pass0 ha hdb he hpl) fun σ H Q q => rd_make hd q
end

/-! ### statements -/
inductive Fl where
  | nx (env : Env) (w : W)
  | rt (d : D) (w : W)
  | bk (env : Env) (w : W)
  | ct (env : Env) (w : W)
abbrev TSv := Env → W → Option Fl
/-- what is wanted behind; F: what is frozen ahead -/
def FlK (cA : Nat → Addr) (ast : Addr) (F0 H0 F : Hp) (Dd : Ends) : Fl → Prop
  | .nx env w => ∀ F' H σ, SR cA ast F0 H0 F' σ H env w → Sub F F' → Dd.nx σ H
  | .bk env w => ∀ F' H σ, SR cA ast F0 H0 F' σ H env w → Sub F F' → Dd.bk σ H
  | .ct env w => ∀ F' H σ, SR cA ast F0 H0 F' σ H env w → Sub F F' → Dd.ct σ H
  | .rt d w => ∀ F' H v, Fx ast F0 H0 F' H → StOk ast F' H w → RelD cA ast F' d v → Dd.rt v H
theorem FlK.up {ast : Addr} {F0 H0 F F1 : Hp} {Dd : Ends} (s : Sub F F1) : ∀ {fl : Fl}, FlK cA ast F0 H0 F Dd fl → FlK cA ast F0 H0 F1 Dd fl
  | .nx _ _, k => fun F' H σ I s' => k F' H σ I (s.trans s')
  | .bk _ _, k => fun F' H σ I s' => k F' H σ I (s.trans s')
  | .ct _ _, k => fun F' H σ I s' => k F' H σ I (s.trans s')
  | .rt _ _, k => k
def rdS (cA : Nat → Addr) (t : TSv) : TS := fun Dd σ H => ∃ ast F0 H0 F env w fl, SR cA ast F0 H0 F σ H env w ∧ t env w = some fl ∧ FlK cA ast F0 H0 F Dd fl
theorem rdS_mk {t : TSv} {Dd : Ends} {σ : St} {H : Hp} {ast F0 H0 F env w fl} (I : SR cA ast F0 H0 F σ H env w) (e : t env w = some fl) (k : FlK cA ast F0 H0 F Dd fl) : rdS cA t Dd σ H := ⟨ast, F0, H0, F, env, w, fl, I, e, k⟩
/-- what is never reached -/
def stNo : TSv := fun _ _ => none
theorem pS_no {st : Stmt} : PS X st (rdS cA stNo) := ⟨fun _ _ _ _ _ _ ⟨_, _, _, _, _, _, _, _, e, _⟩ => by cases e⟩
theorem pSs_no {st : List Stmt} : PSs X st (rdS cA stNo) := ⟨fun _ _ _ _ _ _ ⟨_, _, _, _, _, _, _, _, e, _⟩ => by cases e⟩
def evNo : TEv := fun _ _ => none
theorem pE_no : PE X e (rdE cA evNo) := ⟨fun _ _ _ _ _ _ ⟨_, _, _, _, _, _, _, _, _, _, _, e, _⟩ => by cases e⟩
def evNoB : TBv := fun _ _ => none
theorem pT_no : PT X e (rdT cA evNoB) := ⟨fun _ _ _ _ _ _ ⟨_, _, _, _, _, _, _, _, _, _, _, e, _⟩ => by cases e⟩

def stSkip : TSv := fun env w => some (.nx env w)
def stSeq (t u : TSv) : TSv := fun env w => match t env w with
  | some (.nx env w) => u env w
  | r => r
theorem pSs_nil : PSs X [] (rdS cA stSkip) := PSs.imp pss_nil fun Dd σ H ⟨ast, F0, H0, F, env, w, fl, I, e, k⟩ => by
  cases e
  exact k F H σ I Sub.rfl'
theorem pSs_cons {st : Stmt} {rest : List Stmt} {t u : TSv} (h1 : PS X st (rdS cA t)) (h2 : PSs X rest (rdS cA u)) : PSs X (st :: rest) (rdS cA (stSeq t u)) :=
  PSs.imp (pss_cons h1 h2) fun Dd σ H ⟨ast, F0, H0, F, env, w, fl, I, e, k⟩ => by
    unfold stSeq at e
    split at e
    · rename_i env1 w1 e1
      exact rdS_mk I e1 fun F1 H1 σ1 I1 s1 => rdS_mk I1 e (k.up s1)
    · rename_i n
      refine rdS_mk I e ?_
      cases fl with
      | nx env' w' => exact absurd e (n _ _)
      | rt d w' => exact k
      | bk env' w' => exact k
      | ct env' w' => exact k
theorem pSs_one {st : Stmt} {t : TSv} (h1 : PS X st (rdS cA t)) : PSs X [st] (rdS cA t) := pss_one h1
theorem pS_pass : PS X (.Pass pos) (rdS cA stSkip) := PS.imp ps_pass fun Dd σ H ⟨ast, F0, H0, F, env, w, fl, I, e, k⟩ => by
  cases e
  exact k F H σ I Sub.rfl'
def stBrk : TSv := fun env w => some (.bk env w)
def stCnt : TSv := fun env w => some (.ct env w)
theorem pS_break : PS X (.Break pos) (rdS cA stBrk) := PS.imp ps_break fun Dd σ H ⟨ast, F0, H0, F, env, w, fl, I, e, k⟩ => by
  cases e
  exact k F H σ I Sub.rfl'
theorem pS_continue : PS X (.Continue pos) (rdS cA stCnt) := PS.imp ps_continue fun Dd σ H ⟨ast, F0, H0, F, env, w, fl, I, e, k⟩ => by
  cases e
  exact k F H σ I Sub.rfl'
/-- from a body's slots to an expression's -/
theorem sr0 {ast F0 H0 F σ H env w} (I : SR cA ast F0 H0 F σ H env w) : SR cA ast F0 H0 F (σ ++ []) H env w := by rw [List.append_nil]; exact I
theorem sr1 {ast F0 H0 F H env w} {σ : St} (I : SR cA ast F0 H0 F (σ ++ []) H env w) : SR cA ast F0 H0 F σ H env w := by rw [List.append_nil] at I; exact I
def stRet (t : TEv) : TSv := fun env w => match t env w with
  | some (d, _, w) => some (.rt d w)
  | none => none
theorem pS_ret (h : PE X e (rdE cA te)) : PS X (.Return (some e) pos) (rdS cA (stRet te)) := PS.imp (ps_ret h) fun Dd σ H ⟨ast, F0, H0, F, env, w, fl, I, ee, k⟩ => by
  unfold stRet at ee
  split at ee
  · rename_i d env1 w1 e1
    cases ee
    exact rdE_mk (sr0 I) e1 fun F1 H1 v1 I1 s1 r1 => k F1 H1 v1 I1.fx I1.so r1
  · cases ee
def stRetN : TSv := fun _ w => some (.rt .non w)
theorem pS_retN : PS X (.Return none pos) (rdS cA stRetN) := PS.imp ps_retN fun Dd σ H ⟨ast, F0, H0, F, env, w, fl, I, ee, k⟩ => by
  cases ee
  exact k F H .non I.fx I.so rfl
def stIf (c : TBv) (t u : TSv) : TSv := fun env w => match c env w with
  | some (true, env, w) => t env w
  | some (false, env, w) => u env w
  | none => none
theorem pS_if {p q : List Stmt} {tc : TBv} {t u : TSv} (hc : PT X c (rdT cA tc)) (ha : PSs X p (rdS cA t)) (hb : PSs X q (rdS cA u)) : PS X (.If c p q pos) (rdS cA (stIf tc t u)) :=
  PS.imp (ps_if hc ha hb) fun Dd σ H ⟨ast, F0, H0, F, env, w, fl, I, ee, k⟩ => by
    unfold stIf at ee
    split at ee
    · rename_i env1 w1 e1
      exact rdT_mk (sr0 I) e1 fun F1 H1 I1 s1 => iteT (rdS_mk (sr1 I1) ee (k.up s1))
    · rename_i env1 w1 e1
      exact rdT_mk (sr0 I) e1 fun F1 H1 I1 s1 => iteF (rdS_mk (sr1 I1) ee (k.up s1))
    · cases ee
/-- x = e -/
def stSet (i : Nat) (t : TEv) : TSv := fun env w => match t env w with
  | some (d, env, w) => some (.nx (env.set i (.fr d)) w)
  | none => none
theorem SR.put {ast F0 H0 F σ H env w} (I : SR cA ast F0 H0 F σ H env w) {i : Nat} {d : D} {v : V} (r : RelD cA ast F d v) : SR cA ast F0 H0 F (σ.set i (some v)) H (env.set i (.fr d)) w := by
  refine I.re (by simp [I.len]) id (fun j s e => ?_) fun i j _ _ _ _ e => e
  by_cases hj : j = i
  · subst hj
    have hl : j < env.length := by
      have := (List.getElem?_eq_some_iff.mp e).1
      simpa using this
    rw [List.getElem?_set_self hl] at e
    cases e
    refine .inr (.inr ⟨d, v, rfl, ?_, r⟩)
    exact at_of (List.getElem?_set_self (by rw [← I.len]; exact hl))
  · rw [List.getElem?_set_ne (Ne.symm hj)] at e
    refine .inr (.inl ⟨e, ?_⟩)
    unfold at_
    try simp only [id]
    rw [List.getElem?_set_ne (Ne.symm hj)]
theorem gset {i : Nat} {t : TEv} {Dd : Ends} {σ : St} {H : Hp} (q : rdS cA (stSet i t) Dd σ H) : tAsg (rdE cA t) (gName i) Dd σ H := by
  obtain ⟨ast, F0, H0, F, env, w, fl, I, ee, k⟩ := q
  unfold stSet at ee
  split at ee
  · rename_i d env1 w1 e1
    cases ee
    exact rdE_mk (sr0 I) e1 fun F1 H1 v1 I1 s1 r1 => k F1 H1 _ ((sr1 I1).put r1) s1
  · cases ee
theorem pS_set {i : Nat} {x : Str} {p : Pos} (hN : X.N.Nodup) (hi : X.N[i]? = some x) (hx : Loc X.env.scope x) (he : PE X e (rdE cA te)) (hs : swapsWith e (some (.Name x p)) pos.line X.env = pure false := by rfl) (hf : X.fn x = true ∨ X.env.scope.names.lookup x = some .local := by first | exact .inl rfl | exact .inr rfl | assumption) :
    PS X (.Assign [.Name x p] e pos) (rdS cA (stSet i te)) := PS.imp (ps_set hN hi hx he hs hf) fun Dd σ H q => gset q
/-- x = e, e a new object, kept as one's own -/
def stSetN (i : Nat) (t : TEv) : TSv := fun env w => match t env w with
  | some (d, env, w) => some (.nx (env.set i (.own d)) w)
  | none => none
theorem SR.move {ast F0 H0 F σ H env w} {i : Nat} {d : D} {v : V} (I : SR cA ast F0 H0 F (σ ++ [some v]) H (env ++ [.own d]) w) : SR cA ast F0 H0 F (σ.set i (some v)) H (env.set i (.own d)) w := by
  have hlen : env.length = σ.length := by have := I.len; simpa using this
  refine I.re (by simp [hlen]) (fun j => if j = i then env.length else j) (fun j s e => ?_) fun a b _ _ ha hb e => ?_
  · have hj' : j < env.length := by
      have := (List.getElem?_eq_some_iff.mp e).1
      simpa using this
    by_cases hj : j = i
    · subst hj
      rw [List.getElem?_set_self hj'] at e
      cases e
      refine .inr (.inl ⟨by simp, ?_⟩)
      simp only [if_true]
      unfold at_
      rw [List.getElem?_set_self (by omega), hlen]
      simp
    · rw [List.getElem?_set_ne (Ne.symm hj)] at e
      refine .inr (.inl ⟨?_, ?_⟩)
      · simp only [hj, if_false]
        rw [List.getElem?_append_left hj']; exact e
      · simp only [hj, if_false]
        unfold at_
        rw [List.getElem?_set_ne (Ne.symm hj), List.getElem?_append_left (by omega)]
  · have hla : a < env.length := by have := (List.getElem?_eq_some_iff.mp ha).1; simpa using this
    have hlb : b < env.length := by have := (List.getElem?_eq_some_iff.mp hb).1; simpa using this
    (try simp only at e)
    split at e <;> split at e <;> omega
theorem gsetN {i : Nat} {t : TEv} {Dd : Ends} {σ : St} {H : Hp} (q : rdS cA (stSetN i t) Dd σ H) : tAsg (rdN cA t) (gName i) Dd σ H := by
  obtain ⟨ast, F0, H0, F, env, w, fl, I, ee, k⟩ := q
  unfold stSetN at ee
  split at ee
  · rename_i d env1 w1 e1
    cases ee
    refine ⟨ast, F0, H0, F, [], env, w, d, env1, w1, sr0 I, e1, fun F1 H1 v1 I1 s1 => k F1 H1 _ ?_ s1⟩
    rw [List.append_nil] at I1
    exact I1.move
  · cases ee
theorem pS_setN {i : Nat} {x : Str} {p : Pos} (hN : X.N.Nodup) (hi : X.N[i]? = some x) (hx : Loc X.env.scope x) (he : PE X e (rdN cA te)) (hs : swapsWith e (some (.Name x p)) pos.line X.env = pure false := by rfl) (hf : X.fn x = true ∨ X.env.scope.names.lookup x = some .local := by first | exact .inl rfl | exact .inr rfl | assumption) :
    PS X (.Assign [.Name x p] e pos) (rdS cA (stSetN i te)) := PS.imp (ps_set hN hi hx he hs hf) fun Dd σ H q => gsetN q
end Ev

namespace Ev
open PySem L2 PySem.Spec PyProof.Rows
variable {cA : Nat → Addr} {X : Cx} {a b c e : Expr} {ta tb tc te : TEv} {pos : Pos} {K : PySem.W.Frag}

/-! ### what a loop walks -/
/-- J yields what items tell, as long as what B tells stands -/
def IterOk (cA : Nat → Addr) (ast : Addr) (F B : Hp) (J : It) (items : List D) : Prop :=
  ∀ (i : Nat) F1 H1, Sub F F1 → Sub F1 H1 → Sub B H1 → (items.length = i → J.stop i H1) ∧ ∀ d, items[i]? = some d → J.go i H1 ∧ ∀ x H2, J.yld i H1 x H2 →
    (H2 = H1 ∧ RelD cA ast F1 d x) ∨ ∃ p o, H1 p = none ∧ H2 = upd H1 p o ∧ RelD cA ast (upd F1 p o) d x
/-- B stands through a body that keeps its slots' objects -/
def Lasts (ast : Addr) (H0 F H B : Hp) : Prop := ∀ b o, B b = some o → H b = some o ∧ b ≠ ast ∧ (F b ≠ none ∨ H0 b ≠ none)
def Stands (ast : Addr) (H B : Hp) : Prop := ∀ b o, B b = some o → H b = some o ∧ b ≠ ast
/-- for a for-loop -/
def rdI (cA : Nat → Addr) (t : TLv) : TI := fun σ H R => ∃ ast F0 H0 F τ env w d env' w', SR cA ast F0 H0 F (σ ++ τ) H env w ∧ t env w = some (d, env', w') ∧
  ∀ F' H' J B, SR cA ast F0 H0 F' (σ ++ τ) H' env' w' → Sub F F' → IterOk cA ast F' B J d → Lasts ast H0 F' H' B → R J H'
/-- for a comprehension -/
def rdJ (cA : Nat → Addr) (t : TLv) : TI := fun σ H R => ∃ ast F0 H0 F τ env w d env' w', SR cA ast F0 H0 F (σ ++ τ) H env w ∧ t env w = some (d, env', w') ∧
  ∀ F' H' J B, SR cA ast F0 H0 F' (σ ++ τ) H' env' w' → Sub F F' → IterOk cA ast F' B J d → Stands ast H' B → R J H'
theorem PI.imp {tg : Expr} {t t' : TI} (h : PI X tg e t) (i : ∀ σ H R, t' σ H R → t σ H R) : PI X tg e t' := ⟨fun p s σ H R I q => h.run p s σ H R I (i _ _ _ q)⟩
theorem Lasts.stands {ast : Addr} {H0 F H B : Hp} (l : Lasts ast H0 F H B) : Stands ast H B := fun b o e => ⟨(l b o e).1, (l b o e).2.1⟩
/-- a list or a tuple -/
def iLT (K : PySem.W.Frag) (tl : TE) : TI := fun σ H R => tl σ H fun x H1 => ∃ a, x = .ref a ∧ (((∃ xs, SqL K H1 a xs) ∧ R (Itl K a) H1) ∨ ((∃ xs, SqT K H1 a xs) ∧ R (Itt K a) H1))
theorem pi_LT {tg : Expr} {tl : TE} (hl : PE X e tl) : PI X tg e (iLT X.K tl) := by
  refine ⟨fun pins s σ H R I h => ?_⟩
  refine thn (hl.run pins s σ H _ I h) fun v s1 ⟨x, H1, I1, r1, q1⟩ => ?_
  obtain ⟨a, ex, q1⟩ := q1
  subst ex
  cases r1
  rcases q1 with ⟨⟨xs, hq⟩, q⟩ | ⟨⟨xs, hq⟩, q⟩
  · obtain ⟨its, rv, p, hz⟩ := I1.list hq
    refine wpAny_pyIter_list p.isList ?_
    refine ⟨s1.heap.objs.size, [s1.heap.objs.size], _, _, H1, rfl, I1.kept (t' := s1.toks) fun b o e => Heap.get?_push_of_some _ e, turn_list a _, ⟨_, Heap.get?_push_size _ rfl, rfl, rfl⟩, fun b hb => ?_, q⟩
    have e : b = s1.heap.objs.size := by simpa using hb
    subst e
    exact I1.fpOk (Nat.le_refl _) (I1.hok.fresh (Nat.le_refl _))
  · obtain ⟨its, rv, p, hz⟩ := I1.tuple hq
    refine wpAny_pyIter_tuple (show s1.heap.IsTuple a its.toArray from p) ?_
    refine ⟨s1.heap.objs.size, [s1.heap.objs.size], _, _, H1, rfl, I1.kept (t' := s1.toks) fun b o e => Heap.get?_push_of_some _ e, turn_tuple a _, ⟨_, Heap.get?_push_size _ rfl, rfl, rfl⟩, fun b hb => ?_, q⟩
    have e : b = s1.heap.objs.size := by simpa using hb
    subst e
    exact I1.fpOk (Nat.le_refl _) (I1.hok.fresh (Nat.le_refl _))
/-- the one object -/
def oneH (a : Addr) (o : HO) : Hp := fun b => if b = a then some o else none
theorem oneH_same {a : Addr} {o : HO} : oneH a o a = some o := by unfold oneH; rw [if_pos rfl]
theorem oneH_some {a b : Addr} {o u : HO} (h : oneH a o b = some u) : b = a ∧ u = o := by
  unfold oneH at h
  split at h
  · cases h; exact ⟨by assumption, rfl⟩
  · cases h
theorem iter_lst {ast : Addr} {F : Hp} {p : Addr} {vs : List V} {ds : List D} (r : RelDs cA ast F ds vs) : IterOk cA ast F (oneH p (.lst vs)) (Itl K p) ds := fun i F1 H1 sF sH sB => by
  have hp : H1 p = some (.lst vs) := sB _ _ oneH_same
  refine ⟨fun hi => ⟨vs, SqL.of hp, by rw [← r.length]; exact Nat.le_of_eq hi⟩, fun d hd => ?_⟩
  obtain ⟨v, hv, rv⟩ := r.get hd
  refine ⟨⟨vs, v, SqL.of hp, hv⟩, fun x H2 y => ?_⟩
  obtain ⟨e, y⟩ := y
  have := y vs (SqL.of hp)
  rw [hv] at this
  cases this
  exact .inl ⟨e, RelD.mono sF _ _ rv⟩
theorem iter_tup {ast : Addr} {F : Hp} {p : Addr} {vs : List V} {ds : List D} (r : RelDs cA ast F ds vs) : IterOk cA ast F (oneH p (.tup vs)) (Itt K p) ds := fun i F1 H1 sF sH sB => by
  have hp : H1 p = some (.tup vs) := sB _ _ oneH_same
  refine ⟨fun hi => ⟨vs, SqT.of hp, by rw [← r.length]; exact Nat.le_of_eq hi⟩, fun d hd => ?_⟩
  obtain ⟨v, hv, rv⟩ := r.get hd
  refine ⟨⟨vs, v, SqT.of hp, hv⟩, fun x H2 y => ?_⟩
  obtain ⟨e, y⟩ := y
  have := y vs (SqT.of hp)
  rw [hv] at this
  cases this
  exact .inl ⟨e, RelD.mono sF _ _ rv⟩
def seqD : D → Option (List D)
  | .lst ds => some ds
  | .tup ds => some ds
  | _ => none
/-- for .. in e: what e gives is frozen -/
def itE (t : TEv) : TLv := fun env w => match t env w with
  | some (d, env, w) => match seqD d with
    | some ds => some (ds, env, w)
    | none => none
  | none => none
theorem itE_some {t : TEv} {env : Env} {w : W} {ds : List D} {env' : Env} {w' : W} (e : itE t env w = some (ds, env', w')) : ∃ d, t env w = some (d, env', w') ∧ seqD d = some ds := by
  unfold itE at e
  split at e
  · split at e
    · cases e; exact ⟨_, by assumption, by assumption⟩
    · cases e
  · cases e
theorem pI_e {tg : Expr} {t : TEv} (h : PE X e (rdE cA t)) : PI X tg e (rdI cA (itE t)) := PI.imp (pi_LT h) fun σ H R ⟨ast, F0, H0, F, τ, env, w, d, env', w', I, ee, k⟩ => by
  obtain ⟨y, e1, e2⟩ := itE_some ee
  refine rdE_mk I e1 fun F1 H1 v1 I1 s1 r1 => ?_
  have nst : ∀ {p : Addr} {o : HO}, F1 p = some o → p ≠ ast := fun h z => by rw [z, I1.so.fst] at h; cases h
  cases y with
  | lst ds =>
    cases e2
    obtain ⟨p, vs, rfl, hp, rs⟩ := r1
    refine ⟨p, rfl, .inl ⟨⟨vs, SqL.of (I1.so.sub _ _ hp)⟩, k F1 H1 _ _ I1 s1 (iter_lst (p := p) rs) fun b o eb => ?_⟩⟩
    obtain ⟨rfl, rfl⟩ := oneH_some eb
    exact ⟨I1.so.sub _ _ hp, nst hp, .inl (by rw [hp]; exact fun z => nomatch z)⟩
  | tup ds =>
    cases e2
    obtain ⟨p, vs, rfl, hp, rs⟩ := r1
    refine ⟨p, rfl, .inr ⟨⟨vs, SqT.of (I1.so.sub _ _ hp)⟩, k F1 H1 _ _ I1 s1 (iter_tup (p := p) rs) fun b o eb => ?_⟩⟩
    obtain ⟨rfl, rfl⟩ := oneH_some eb
    exact ⟨I1.so.sub _ _ hp, nst hp, .inl (by rw [hp]; exact fun z => nomatch z)⟩
  | _ => cases e2
theorem pJ_of {tg : Expr} {t : TLv} (h : PI X tg e (rdI cA t)) : PI X tg e (rdJ cA t) := PI.imp h fun σ H R ⟨ast, F0, H0, F, τ, env, w, d, env', w', I, ee, k⟩ =>
  ⟨ast, F0, H0, F, τ, env, w, d, env', w', I, ee, fun F1 H1 J B I1 s1 it l => k F1 H1 J B I1 s1 it l.stands⟩
/-- [.. for .. in x]: x as it stands -/
def itN (i : Nat) : TLv := fun env w => match look env i with
  | some d => match seqD d with
    | some ds => some (ds, env, w)
    | none => none
  | none => none
theorem see_seq {ast F0 H0 F ξ H env w} (I : SR cA ast F0 H0 F ξ H env w) {i : Nat} {s : SV} {d : D} {ds : List D} (h : env[i]? = some s) (hd : slotD s = some d) (hs : seqD d = some ds) :
    ∃ p vs, at_ ξ i = some (.ref p) ∧ p ≠ ast ∧ RelDs cA ast F ds vs ∧ ((d = .lst ds ∧ H p = some (.lst vs)) ∨ (d = .tup ds ∧ H p = some (.tup vs))) ∧ ((∃ c, s = .own c) ∨ F p ≠ none ∨ H0 p ≠ none) := by
  obtain ⟨v, e1, r⟩ := I.see h hd
  have q := I.slots _ _ h
  have np : ∀ {p : Addr}, v = .ref p → (∃ o, F p = some o) → p ≠ ast := fun ev ⟨o, hf⟩ z => by rw [z, I.so.fst] at hf; cases hf
  cases d with
  | lst es =>
    cases hs
    obtain ⟨p, vs, rfl, hp, rs⟩ := r
    refine ⟨p, vs, e1, ?_, rs, .inl ⟨rfl, hp⟩, ?_⟩
    · cases s with
      | no => cases hd
      | fr d' => cases hd; obtain ⟨v', e2, b, us, eb, hb, _⟩ := q; rw [e1] at e2; cases e2; cases eb; exact np rfl ⟨_, hb⟩
      | own d' => obtain ⟨v', e2, _, k⟩ := q; rw [e1] at e2; cases e2; exact (k.1 p rfl).2
      | bor d' => obtain ⟨v', e2, _, k⟩ := q; rw [e1] at e2; cases e2; exact (k p rfl).2
    · cases s with
      | no => cases hd
      | fr d' => cases hd; obtain ⟨v', e2, b, us, eb, hb, _⟩ := q; rw [e1] at e2; cases e2; cases eb; exact .inr (.inl (by rw [hb]; exact fun z => nomatch z))
      | own d' => exact .inl ⟨_, rfl⟩
      | bor d' => obtain ⟨v', e2, _, k⟩ := q; rw [e1] at e2; cases e2; exact .inr (.inr (k p rfl).1)
  | tup es =>
    cases hs
    obtain ⟨p, vs, rfl, hp, rs⟩ := r
    refine ⟨p, vs, e1, np rfl ⟨_, hp⟩, rs, .inr ⟨rfl, I.so.sub _ _ hp⟩, .inr (.inl (by rw [hp]; exact fun z => nomatch z))⟩
  | _ => cases hs
theorem pJ_n {tg : Expr} {i : Nat} {x : Str} {p : Pos} (h : PE X (.Name x p) (tVar i)) (hi : i < X.N.length) : PI X tg (.Name x p) (rdJ cA (itN i)) := by
  have base := pi_LT (tg := tg) h
  refine ⟨fun pins s σ H R I q => base.run pins s σ H R I ?_⟩
  obtain ⟨ast, F0, H0, F, τ, env, w, d, env', w', J, ee, k⟩ := q
  unfold itN at ee
  split at ee
  · rename_i y e1
    split at ee
    · rename_i ds e2
      cases ee
      obtain ⟨s, e3, e4⟩ := look_some e1
      obtain ⟨p, vs, e5, pa, rs, hc, _⟩ := see_seq J e3 e4 e2
      refine ⟨.ref p, at_left e5 (by rw [I.len]; exact hi), p, rfl, ?_⟩
      rcases hc with ⟨_, hp⟩ | ⟨_, hp⟩
      · refine .inl ⟨⟨vs, SqL.of hp⟩, k F H _ _ J Sub.rfl' (iter_lst (p := p) rs) fun b o eb => ?_⟩
        obtain ⟨rfl, rfl⟩ := oneH_some eb
        exact ⟨hp, pa⟩
      · refine .inr ⟨⟨vs, SqT.of hp⟩, k F H _ _ J Sub.rfl' (iter_tup (p := p) rs) fun b o eb => ?_⟩
        obtain ⟨rfl, rfl⟩ := oneH_some eb
        exact ⟨hp, pa⟩
    · cases ee
  · cases ee
/-- for .. in x: x is no list of one's own -/
def itM (i : Nat) : TLv := fun env w => match ix env i with
  | some (.own _) => none
  | some s => match slotD s with
    | some d => match seqD d with
      | some ds => some (ds, env, w)
      | none => none
    | none => none
  | none => none
theorem pI_n {tg : Expr} {i : Nat} {x : Str} {p : Pos} (h : PE X (.Name x p) (tVar i)) (hi : i < X.N.length) : PI X tg (.Name x p) (rdI cA (itM i)) := by
  have base := pi_LT (tg := tg) h
  refine ⟨fun pins s σ H R I q => base.run pins s σ H R I ?_⟩
  obtain ⟨ast, F0, H0, F, τ, env, w, d, env', w', J, ee, k⟩ := q
  unfold itM at ee
  rw [ix_eq] at ee
  split at ee
  · cases ee
  · rename_i s no e3
    split at ee
    · rename_i y e4
      split at ee
      · rename_i ds e2
        cases ee
        obtain ⟨p, vs, e5, pa, rs, hc, hl⟩ := see_seq J e3 e4 e2
        have hl' : F p ≠ none ∨ H0 p ≠ none := hl.elim (fun ⟨c, ec⟩ => absurd ec (no c)) id
        refine ⟨.ref p, at_left e5 (by rw [I.len]; exact hi), p, rfl, ?_⟩
        rcases hc with ⟨_, hp⟩ | ⟨_, hp⟩
        · refine .inl ⟨⟨vs, SqL.of hp⟩, k F H _ _ J Sub.rfl' (iter_lst (p := p) rs) fun b o eb => ?_⟩
          obtain ⟨rfl, rfl⟩ := oneH_some eb
          exact ⟨hp, pa, hl'⟩
        · refine .inr ⟨⟨vs, SqT.of hp⟩, k F H _ _ J Sub.rfl' (iter_tup (p := p) rs) fun b o eb => ?_⟩
          obtain ⟨rfl, rfl⟩ := oneH_some eb
          exact ⟨hp, pa, hl'⟩
      · cases ee
    · cases ee
  · cases ee
/-! range -/
def upto (lo : Int) : Nat → List D
  | 0 => []
  | n + 1 => .int lo :: upto (lo + 1) n
theorem upto_length : ∀ (n : Nat) (lo : Int), (upto lo n).length = n
  | 0, _ => rfl
  | n + 1, lo => by show (upto (lo + 1) n).length + 1 = n + 1; rw [upto_length]
theorem upto_get : ∀ (n : Nat) (lo : Int) (i : Nat) (d : D), (upto lo n)[i]? = some d → d = .int (lo + i) ∧ i < n
  | 0, _, i, d, h => by simp [upto] at h
  | n + 1, lo, 0, d, h => by
    simp [upto] at h
    subst h
    exact ⟨by simp, Nat.succ_pos _⟩
  | n + 1, lo, i + 1, d, h => by
    have h' : (upto (lo + 1) n)[i]? = some d := by simpa [upto] using h
    obtain ⟨e, hi⟩ := upto_get n (lo + 1) i d h'
    refine ⟨?_, Nat.succ_lt_succ hi⟩
    rw [e]
    congr 1
    omega
theorem iter_rng {ast : Addr} {F : Hp} {lo : Int} {n : Nat} : IterOk cA ast F (fun _ => none) (Itr lo n) (upto lo n) := fun i F1 H1 sF sH sB => by
  refine ⟨fun hi => by rw [upto_length] at hi; exact Nat.le_of_eq hi, fun d hd => ?_⟩
  obtain ⟨e, hi⟩ := upto_get _ _ _ _ hd
  refine ⟨hi, fun x H2 y => ?_⟩
  obtain ⟨e1, e2⟩ := y
  exact .inl ⟨e1, by rw [e, e2]; rfl⟩
def itR1 (t : TLv) : TLv := fun env w => match t env w with
  | some ([.int j], env, w) => if Nat.blt j.natAbs 4001 then some (upto 0 j.toNat, env, w) else none
  | _ => none
def itR2 (t : TLv) : TLv := fun env w => match t env w with
  | some ([.int i, .int j], env, w) => if Nat.blt i.natAbs 1000001 && Nat.blt j.natAbs 1000001 then some (upto i (j - i).toNat, env, w) else none
  | _ => none
theorem pI_r1 {tg : Expr} {t : TLv} {p : Pos} (hg : Gl X "range") (hm : X.mg "range" = none) (ha : PA X [a] (rdA cA t)) (hs : starEach [a] X.env = [(false, eval a X.env)] := by rfl) : PI X tg (.Call (.Name "range" p) [a] [] pos) (rdI cA (itR1 t)) :=
  PI.imp (pi_range1 hg hm ha hs) fun σ H R ⟨ast, F0, H0, F, τ, env, w, d, env', w', I, ee, k⟩ => by
    unfold itR1 at ee
    split at ee
    · rename_i j env1 w1 e1
      split at ee
      · rename_i hj
        cases ee
        have hj' := Nat.blt_eq.mp hj
        refine rdA_mk I e1 fun F1 H1 vs I1 s1 r1 => ?_
        obtain ⟨v, r, rfl, rv, rr⟩ := r1
        cases rv
        cases rr
        exact ⟨j, rfl, by omega, by omega, k F1 H1 _ _ I1 s1 iter_rng fun b o eb => nomatch eb⟩
      · cases ee
    · cases ee
theorem pI_r2 {tg : Expr} {t : TLv} {p : Pos} (hg : Gl X "range") (hm : X.mg "range" = none) (ha : PA X [a, b] (rdA cA t)) (hs : starEach [a, b] X.env = [(false, eval a X.env), (false, eval b X.env)] := by rfl) (hs2 : starEach [b] X.env = [(false, eval b X.env)] := by rfl) : PI X tg (.Call (.Name "range" p) [a, b] [] pos) (rdI cA (itR2 t)) :=
  PI.imp (pi_range2 hg hm ha hs hs2) fun σ H R ⟨ast, F0, H0, F, τ, env, w, d, env', w', I, ee, k⟩ => by
    unfold itR2 at ee
    split at ee
    · rename_i i j env1 w1 e1
      split at ee
      · rename_i hj
        rw [Bool.and_eq_true] at hj
        cases ee
        have h1 := Nat.blt_eq.mp hj.1
        have h2 := Nat.blt_eq.mp hj.2
        refine rdA_mk I e1 fun F1 H1 vs I1 s1 r1 => ?_
        obtain ⟨v, r, rfl, rv, v2, r2, rfl, rv2, rr⟩ := r1
        cases rv
        cases rv2
        cases rr
        exact ⟨i, j, rfl, ⟨by omega, by omega, by omega, by omega⟩, k F1 H1 _ _ I1 s1 iter_rng fun b o eb => nomatch eb⟩
      · cases ee
    · cases ee
end Ev

namespace PySem
open Sem (wp)
open AutoSeq1 (wpAny_loadPart')
theorem meets_enumerate_newT (l : Addr) (items : Array Value) (n : Nat) (dct : Option Addr) (sl : Array (Option Value)) :
    Meets (Builtin.«enumerate.__new__» ⟨[.type "enumerate", .ref l], []⟩) (fun _ R s => s.heap.get? l = some { cls := .type "tuple", dict := dct, data := .seq items n, slots := sl } ∧
      R (.ok (.ret (.ref (s.heap.push { cls := .type "tuple_iterator", data := .fields #[.ref l, .int 0 0] }).objs.size)))
        { s with heap := (s.heap.push { cls := .type "tuple_iterator", data := .fields #[.ref l, .int 0 0] }).push { cls := .type "enumerate", data := .fields #[.none, .bool false, .ref s.heap.objs.size, rawInt 0, .none, .none] } }) :=
  .of_wp fun prog w A R s h => by
    obtain ⟨hp, g, d, tk, os⟩ := s; obtain ⟨hl, h⟩ := h
    have hsub := sub_enumerate
    have hL : Heap.IsTuple (Shared.heap ⟨hp, g, d, tk, os⟩) l items := ⟨_, hl, rfl, n, rfl⟩
    wp_walk using wpAny_loadPart' hl
    refine wpAny_stack_any fun st => wpAny_pure ?_
    split
    · rename_i c _ _ _ _ _
      cases (c == Value.type "enumerate")
      · wp_walk using wpAny_loadPart' hl, wpAny_pyIter_tuple hL
        exact ⟨_, rfl, h⟩
      · wp_walk using wpAny_loadPart' hl, wpAny_pyIter_tuple hL
        exact ⟨_, rfl, h⟩
    · wp_walk using wpAny_loadPart' hl, wpAny_pyIter_tuple hL
      exact ⟨_, rfl, h⟩
section
variable {prog : Program} {w : World} {A : Around} {E : Value → Shared → Prop} {s : Shared}
theorem call_enumerate_tupleE {l : Addr} {items : Array Value} {Q : Value → Shared → Prop} (hL : s.heap.IsTuple l items)
    (h : ∀ h', IsEnum h' (s.heap.objs.size + 1) s.heap.objs.size 0 .none → h'.IsTupleIter s.heap.objs.size l 0 → h'.objs.size = s.heap.objs.size + 2 →
      (∀ b o, s.heap.get? b = some o → h'.get? b = some o) → Q (.ref (s.heap.objs.size + 1)) { s with heap := h' }) :
    wpAny (model prog w) A (call (.type "enumerate") [.ref l]) Q E s := by
  obtain ⟨⟨c, dct, dt, sl⟩, hl, hc, n, hd⟩ := hL
  replace hc : c = .type "tuple" := hc
  replace hd : dt = .seq items n := hd
  subst hc hd
  refine callType_new F.called_enumerate (by decide) (F.typeCall_enumerate_1 _) (F.newCall_enumerate_1 _) (fun obj => F.args_object_init_2 obj _) F.entry_enumerate_new
    (meets_enumerate_newT l items n dct sl) ⟨hl, ?_⟩
  have hz : (s.heap.push { cls := .type "tuple_iterator", data := .fields #[.ref l, .int 0 0] }).objs.size = s.heap.objs.size + 1 := Heap.size_push ..
  show _ ∧ _
  rw [hz]
  have he : IsEnum ((s.heap.push { cls := .type "tuple_iterator", data := .fields #[.ref l, .int 0 0] }).push
      { cls := .type "enumerate", data := .fields #[.none, .bool false, .ref s.heap.objs.size, rawInt 0, .none, .none] }) (s.heap.objs.size + 1) s.heap.objs.size 0 .none := by
    have := Heap.get?_push_size (s.heap.push { cls := .type "tuple_iterator", data := .fields #[.ref l, .int 0 0] })
      (o := { cls := .type "enumerate", data := .fields #[.none, .bool false, .ref s.heap.objs.size, rawInt 0, .none, .none] }) rfl
    rw [hz] at this; exact this
  refine ⟨⟨_, he, rfl⟩, h _ he ⟨_, Heap.get?_push_of_some _ (Heap.get?_push_size _ rfl), rfl, rfl⟩ (by rw [Heap.size_push, hz]) fun b o x => Heap.get?_push_of_some _ (Heap.get?_push_of_some _ x)⟩
end
end PySem
namespace Ev
open PySem L2 PySem.Spec PyProof.Rows
/-- the tuple at a, each item in a new pair -/
def IteT (K : PySem.W.Frag) (a : Addr) : It :=
  ⟨fun i H => ∃ (xs : List V) (x : V), SqT K H a xs ∧ xs[i]? = some x, fun i H v H' => ∃ T x, v = .ref T ∧ H T = none ∧ H' = upd H T (.tup [.int (i : Nat), x]) ∧ ∀ xs, SqT K H a xs → xs[i]? = some x, fun i H => ∃ xs : List V, SqT K H a xs ∧ xs.length = i⟩
theorem turn_enumT {P : Program} {w : World} {K : PySem.W.Frag} {elts : List Expr} {kk : Nat} {tpos : Pos} (a e it : Addr) (hai : a ≠ it) :
    Turn P w K (.Tuple elts kk tpos) (IteT K a) [e, it] e (fun i h => (∃ old, IsEnum h e it ((i : Nat) : Int) old) ∧ h.IsTupleIter it a i ∧ e ≠ it) where
  mem := by simp
  obj := fun i h st b hb => by
    obtain ⟨⟨old, he⟩, ⟨o, ho, hc, hd⟩, _⟩ := st
    have e' : b = e ∨ b = it := by simpa using hb
    rcases e' with z | z
    · rw [z]; exact ⟨_, he, fun v q => nomatch q⟩
    · rw [z]; exact ⟨o, ho, fun v q => by rw [hd] at q; cases q⟩
  keep := fun i h h' st k => let ⟨⟨old, he⟩, hi, hne⟩ := st; ⟨⟨old, k e (by simp) _ he⟩, hi.at fun o q => k it (by simp) o q, hne⟩
  item := by
    intro X hP hw hK hc i pins s σ H E I hf st hg
    subst hP hw hK
    obtain ⟨⟨old, he⟩, hit, hne⟩ := st
    obtain ⟨xs, x, hq, hx⟩ := hg
    obtain ⟨its, rv, p, hz⟩ := I.tuple hq
    obtain ⟨u, hu, ru⟩ := rv.get hx
    have hil' : i < its.toArray.size := by simpa using (List.getElem?_eq_some_iff.mp hu).1
    have hel : e < s.heap.objs.size := Heap.lt_size he
    have hil : it < s.heap.objs.size := by obtain ⟨_, q, _⟩ := hit; exact Heap.lt_size q
    have hea : e ≠ a := fun z => by
      obtain ⟨o, ho, hco, _⟩ := p
      rw [← z] at ho
      have he' : s.heap.get? e = some { cls := .type "enumerate", dict := none, data := .fields #[.none, .bool false, .ref it, rawInt i, .none, old], slots := #[] } := he
      rw [he'] at ho
      cases ho
      simp at hco
    refine wpAny_pyNext_enum_itemD (Draws.tuple (show X.A.in1.handled = none from I.ok.hd hc) it a hai its.toArray) he ⟨hit, p⟩ hil' hne (by simp [hne, hea]) fun x' h' tk hPx ho hst' hT hsz hk => ?_
    obtain rfl : x' = u := by
      have h1 : its.toArray[i]? = some u := by simpa using hu
      exact Option.some.inj (hPx.symm.trans h1)
    obtain ⟨hit', _⟩ := hst'
    refine ⟨_, rfl, wpAny_letOwnedTupleGo_enum (s := { s with heap := h', toks := tk + 1 }) ho fun h'' he' sb => ?_⟩
    have hT2 : h''.get? s.heap.objs.size = some { cls := .type "tuple", data := .seq #[.int i tk, x'] } := (sb.2 _ (Nat.ne_of_gt hel)).trans hT
    have new : ObjOk X.prog X.w (upd H s.heap.objs.size (.tup [.int (i : Nat), x])) h'' s.heap.objs.size (.tup [.int (i : Nat), x]) :=
      ⟨by show 2 ≤ sizeLine; decide, [.int i tk, x'], .cons ⟨_, rfl⟩ (.cons ru .nil), ⟨_, hT2, rfl, _, rfl⟩⟩
    have I1 : Inv X pins σ (upd H s.heap.objs.size (.tup [.int (i : Nat), x])) { s with heap := h'', toks := tk + 1 } :=
      I.turnedNew (ch := [e, it]) (fun b ob hb q => (sb.2 b (fun z => hb (by simp [z]))).trans (hk b ob (fun z => hb (by simp [z])) (fun z => hb (by simp [z])) q)) hf (Nat.le_refl _) new
    refine ⟨.ref s.heap.objs.size, _, I1, rfl, ⟨_, x, rfl, I.hok.fresh (Nat.le_refl _), rfl, fun ys hy => by rw [I.tuple_inj hy hq]; exact hx⟩, ⟨⟨x', ?_⟩, hit'.at fun o q => (sb.2 it (Ne.symm hne)).trans q, hne⟩, fun b hb => ?_⟩
    · have e1 : ((i + 1 : Nat) : Int) = (i : Int) + 1 := by omega
      rw [e1]; exact he'
    · have hb' : b < s.heap.objs.size := by
        have e' : b = e ∨ b = it := by simpa using hb
        rcases e' with z | z
        · rw [z]; exact hel
        · rw [z]; exact hil
      rw [upd_ne (Nat.ne_of_lt hb')]
      exact (hf b hb).1
  done := by
    intro X hP hw hK hc i pins s σ H E I hf st hg
    subst hP hw hK
    obtain ⟨⟨old, he⟩, hit, hne⟩ := st
    obtain ⟨xs, hq, hx⟩ := hg
    obtain ⟨its, rv, p, hz⟩ := I.tuple hq
    obtain ⟨f0, f1, f2, f3, f4, f5⟩ := hf it (by simp)
    have hl := rv.length
    have hi : i = its.toArray.size := by rw [List.size_toArray, ← hl, hx]
    subst hi
    exact wpAny_pyNext_enum_endD (Draws.tuple (show X.A.in1.handled = none from I.ok.hd hc) it a hai its.toArray) he ⟨hit, p⟩ fun h' eb => ⟨rfl, I.turned (t' := s.toks) (fun b o hb q => eb b o hb q) f0 f1 f3 f4 f5⟩
  self := fun A i s Q E st h => let ⟨⟨_, he⟩, _⟩ := st; wpAny_pyIter_enum he h
/-- enumerate of a list or a tuple -/
def iEnumA (K : PySem.W.Frag) (ta : TA) : TI := fun σ H R => ta σ H fun vs H1 => ∃ a xs, vs = [.ref a] ∧ ((SqL K H1 a xs ∧ R (Ite K a) H1) ∨ (SqT K H1 a xs ∧ R (IteT K a) H1))
theorem pi_enumA {X : Cx} {e : Expr} {ta : TA} {p pos tpos : Pos} {elts : List Expr} {kk : Nat} (hg : Gl X "enumerate") (hm : X.mg "enumerate" = none) (ha : PA X [e] ta) (hs : starEach [e] X.env = [(false, eval e X.env)] := by rfl) :
    PI X (.Tuple elts kk tpos) (.Call (.Name "enumerate" p) [e] [] pos) (iEnumA X.K ta) := by
  refine ⟨fun pins s σ H R I h => ?_⟩
  refine Call_ (ld_blt I hg hm boot_enumerate (PyProof.Rows.callWith_type1 (thn (ha.run pos pins s σ H _ I h) fun us s1 ⟨vs, H1, I1, r1, q1⟩ => ?_) hs rfl))
  obtain ⟨a, xs, ex, hq⟩ := q1
  subst ex
  cases r1 with
  | cons r rr =>
    cases rr
    cases r
    have fresh : ∀ b, b ∈ [s1.heap.objs.size + 1, s1.heap.objs.size] → FpOk X pins H1 b := fun b hb => by
      have e' : b = s1.heap.objs.size + 1 ∨ b = s1.heap.objs.size := by simpa using hb
      have hle : s1.heap.objs.size ≤ b := by
        rcases e' with z | z
        · rw [z]; exact Nat.le_add_right _ _
        · rw [z]; exact Nat.le_refl _
      exact I1.fpOk hle (I1.hok.fresh hle)
    rcases hq with ⟨hq, q⟩ | ⟨hq, q⟩
    · obtain ⟨its, rv, p', hz⟩ := I1.list hq
      refine call_enumerate_list p'.isList fun h' he hit hsz hk => wpAny_pyIter_enum he ?_
      have I2 : Inv X pins σ H1 { s1 with heap := h' } := I1.kept (t' := s1.toks) hk
      exact ⟨s1.heap.objs.size + 1, [s1.heap.objs.size + 1, s1.heap.objs.size], _, _, H1, rfl, I2, turn_enum a (s1.heap.objs.size + 1) s1.heap.objs.size, ⟨⟨.none, he⟩, hit, Nat.succ_ne_self _⟩, fresh, q⟩
    · obtain ⟨its, rv, p', hz⟩ := I1.tuple hq
      have hal : a < s1.heap.objs.size := by obtain ⟨o, ho, _⟩ := p'; exact Heap.lt_size ho
      refine call_enumerate_tupleE p' fun h' he hit hsz hk => wpAny_pyIter_enum he ?_
      have I2 : Inv X pins σ H1 { s1 with heap := h' } := I1.kept (t' := s1.toks) hk
      exact ⟨s1.heap.objs.size + 1, [s1.heap.objs.size + 1, s1.heap.objs.size], _, _, H1, rfl, I2, turn_enumT a (s1.heap.objs.size + 1) s1.heap.objs.size (Nat.ne_of_lt hal), ⟨⟨.none, he⟩, hit, Nat.succ_ne_self _⟩, fresh, q⟩
end Ev

namespace Ev
open PySem L2 PySem.Spec PyProof.Rows
variable {cA : Nat → Addr} {X : Cx} {a b c e : Expr} {ta tb tc te : TEv} {pos : Pos} {K : PySem.W.Frag}

/-! ### zip, enumerate -/
def argD (env : Env) : Arg → Option D
  | .val d => some d
  | .slot i => look env i
def argOwn (env : Env) : Arg → Bool
  | .val _ => false
  | .slot i => match ix env i with
    | some (.own _) => true
    | _ => false
theorem arg_see {ast F0 H0 F ξ H env w} (I : SR cA ast F0 H0 F ξ H env w) {a : Arg} {v : V} {d : D} {ds : List D} (r : ArgRel cA ast F ξ a v) (h : argD env a = some d) (hs : seqD d = some ds) :
    ∃ p vs, v = .ref p ∧ p ≠ ast ∧ RelDs cA ast F ds vs ∧ ((d = .lst ds ∧ H p = some (.lst vs)) ∨ (d = .tup ds ∧ H p = some (.tup vs))) ∧ (argOwn env a = true ∨ F p ≠ none ∨ H0 p ≠ none) := by
  cases a with
  | val d' =>
    cases h
    have nst : ∀ {p : Addr} {o : HO}, F p = some o → p ≠ ast := fun h z => by rw [z, I.so.fst] at h; cases h
    cases d with
    | lst es => cases hs; obtain ⟨p, vs, rfl, hp, rs⟩ := r; exact ⟨p, vs, rfl, nst hp, rs, .inl ⟨rfl, I.so.sub _ _ hp⟩, .inr (.inl (by rw [hp]; exact fun z => nomatch z))⟩
    | tup es => cases hs; obtain ⟨p, vs, rfl, hp, rs⟩ := r; exact ⟨p, vs, rfl, nst hp, rs, .inr ⟨rfl, I.so.sub _ _ hp⟩, .inr (.inl (by rw [hp]; exact fun z => nomatch z))⟩
    | _ => cases hs
  | slot i =>
    obtain ⟨s, e3, e4⟩ := look_some h
    obtain ⟨p, vs, e5, pa, rs, hc, hl⟩ := see_seq I e3 e4 hs
    have r' : at_ ξ i = some v := r
    rw [e5] at r'
    cases r'
    refine ⟨p, vs, rfl, pa, rs, hc, hl.imp (fun ⟨c, ec⟩ => ?_) id⟩
    subst ec
    show (match ix env i with | some (.own _) => true | _ => false) = true
    rw [ix_eq, e3]
def twoH (a : Addr) (o : HO) (b : Addr) (u : HO) : Hp := fun c => if c = a then some o else if c = b then some u else none
theorem twoH_some {a b c : Addr} {o u x : HO} (h : twoH a o b u c = some x) : (c = a ∧ x = o) ∨ (c = b ∧ x = u) := by
  unfold twoH at h
  split at h
  · cases h; exact .inl ⟨by assumption, rfl⟩
  · split at h
    · cases h; exact .inr ⟨by assumption, rfl⟩
    · cases h
def zipD : List D → List D → List D
  | x :: xs, y :: ys => .tup [x, y] :: zipD xs ys
  | _, _ => []
theorem zipD_get : ∀ {xs ys : List D} {i : Nat} {d : D}, (zipD xs ys)[i]? = some d → ∃ x y, d = .tup [x, y] ∧ xs[i]? = some x ∧ ys[i]? = some y
  | [], ys, i, d, h => by simp [zipD] at h
  | _ :: _, [], i, d, h => by simp [zipD] at h
  | x :: xs, y :: ys, 0, d, h => by simp [zipD] at h; exact ⟨x, y, h.symm, rfl, rfl⟩
  | x :: xs, y :: ys, i + 1, d, h => by
    obtain ⟨u, v, e, h1, h2⟩ := zipD_get (xs := xs) (ys := ys) (i := i) (by simpa [zipD] using h)
    exact ⟨u, v, e, by simpa using h1, by simpa using h2⟩
theorem zipD_len : ∀ (xs ys : List D), xs.length ≤ (zipD xs ys).length ∨ ys.length ≤ (zipD xs ys).length
  | [], ys => .inl (Nat.zero_le _)
  | _ :: _, [] => .inr (Nat.zero_le _)
  | x :: xs, y :: ys => (zipD_len xs ys).imp (fun h => Nat.succ_le_succ h) (fun h => Nat.succ_le_succ h)
theorem tup2 {ast : Addr} {F1 : Hp} {T : Addr} {x y : V} {dx dy : D} (hn : F1 T = none) (rx : RelD cA ast F1 dx x) (ry : RelD cA ast F1 dy y) : RelD cA ast (upd F1 T (.tup [x, y])) (.tup [dx, dy]) (.ref T) :=
  ⟨T, [x, y], rfl, upd_same, RelDs.cons (RelD.mono (Sub.upd hn) _ _ rx) (RelDs.one (RelD.mono (Sub.upd hn) _ _ ry))⟩
theorem iter_zipL {ast : Addr} {F : Hp} {p q : Addr} {vs us : List V} {ds es : List D} {B : Hp} (hb1 : B p = some (.lst vs)) (hb2 : B q = some (.lst us)) (r : RelDs cA ast F ds vs) (r2 : RelDs cA ast F es us) :
    IterOk cA ast F B (Itz K p q) (zipD ds es) := fun i F1 H1 sF sH sB => by
  have hp : H1 p = some (.lst vs) := sB _ _ hb1
  have hq : H1 q = some (.lst us) := sB _ _ hb2
  refine ⟨fun hi => ⟨vs, us, SqL.of hp, SqL.of hq, by rw [← r.length, ← r2.length, ← hi]; exact zipD_len ds es⟩, fun d hd => ?_⟩
  obtain ⟨x, y, rfl, hx, hy⟩ := zipD_get hd
  obtain ⟨v, hv, rv⟩ := r.get hx
  obtain ⟨u, hu, ru⟩ := r2.get hy
  refine ⟨⟨vs, us, v, u, SqL.of hp, SqL.of hq, hv, hu⟩, fun z H2 yl => ?_⟩
  obtain ⟨T, x', y', rfl, hT, rfl, f1, f2⟩ := yl
  have e1 := f1 vs (SqL.of hp)
  have e2 := f2 us (SqL.of hq)
  rw [hv] at e1; cases e1
  rw [hu] at e2; cases e2
  exact .inr ⟨T, _, hT, rfl, tup2 (sH.none hT) (RelD.mono sF _ _ rv) (RelD.mono sF _ _ ru)⟩
theorem iter_zipT {ast : Addr} {F : Hp} {p q : Addr} {vs us : List V} {ds es : List D} {B : Hp} (hb1 : B p = some (.tup vs)) (hb2 : B q = some (.tup us)) (r : RelDs cA ast F ds vs) (r2 : RelDs cA ast F es us) :
    IterOk cA ast F B (RZ.ItzT K p q) (zipD ds es) := fun i F1 H1 sF sH sB => by
  have hp : H1 p = some (.tup vs) := sB _ _ hb1
  have hq : H1 q = some (.tup us) := sB _ _ hb2
  refine ⟨fun hi => ⟨vs, us, SqT.of hp, SqT.of hq, by rw [← r.length, ← r2.length, ← hi]; exact zipD_len ds es⟩, fun d hd => ?_⟩
  obtain ⟨x, y, rfl, hx, hy⟩ := zipD_get hd
  obtain ⟨v, hv, rv⟩ := r.get hx
  obtain ⟨u, hu, ru⟩ := r2.get hy
  refine ⟨⟨vs, us, v, u, SqT.of hp, SqT.of hq, hv, hu⟩, fun z H2 yl => ?_⟩
  obtain ⟨T, x', y', rfl, hT, rfl, f1, f2⟩ := yl
  have e1 := f1 vs (SqT.of hp)
  have e2 := f2 us (SqT.of hq)
  rw [hv] at e1; cases e1
  rw [hu] at e2; cases e2
  exact .inr ⟨T, _, hT, rfl, tup2 (sH.none hT) (RelD.mono sF _ _ rv) (RelD.mono sF _ _ ru)⟩
def enumD : Int → List D → List D
  | _, [] => []
  | n, x :: xs => .tup [.int n, x] :: enumD (n + 1) xs
theorem enumD_get : ∀ {xs : List D} {n : Int} {i : Nat} {d : D}, (enumD n xs)[i]? = some d → ∃ x, d = .tup [.int (n + i), x] ∧ xs[i]? = some x
  | [], n, i, d, h => by simp [enumD] at h
  | x :: xs, n, 0, d, h => by simp [enumD] at h; exact ⟨x, by rw [← h]; simp, rfl⟩
  | x :: xs, n, i + 1, d, h => by
    obtain ⟨u, e, h1⟩ := enumD_get (xs := xs) (n := n + 1) (i := i) (by simpa [enumD] using h)
    refine ⟨u, ?_, by simpa using h1⟩
    rw [e]
    congr 3
    omega
theorem enumD_len : ∀ (xs : List D) (n : Int), (enumD n xs).length = xs.length
  | [], _ => rfl
  | x :: xs, n => congrArg Nat.succ (enumD_len xs (n + 1))
theorem iter_enumL {ast : Addr} {F : Hp} {p : Addr} {vs : List V} {ds : List D} {B : Hp} (hb1 : B p = some (.lst vs)) (r : RelDs cA ast F ds vs) : IterOk cA ast F B (Ite K p) (enumD 0 ds) := fun i F1 H1 sF sH sB => by
  have hp : H1 p = some (.lst vs) := sB _ _ hb1
  refine ⟨fun hi => ⟨vs, SqL.of hp, by rw [← r.length, ← enumD_len ds 0, hi]; exact Nat.le_refl _⟩, fun d hd => ?_⟩
  obtain ⟨x, rfl, hx⟩ := enumD_get hd
  obtain ⟨v, hv, rv⟩ := r.get hx
  refine ⟨⟨vs, v, SqL.of hp, hv⟩, fun z H2 yl => ?_⟩
  obtain ⟨T, x', rfl, hT, rfl, f1⟩ := yl
  have e1 := f1 vs (SqL.of hp)
  rw [hv] at e1; cases e1
  exact .inr ⟨T, _, hT, rfl, tup2 (sH.none hT) (by show V.int _ = V.int _; simp) (RelD.mono sF _ _ rv)⟩
theorem iter_enumT {ast : Addr} {F : Hp} {p : Addr} {vs : List V} {ds : List D} {B : Hp} (hb1 : B p = some (.tup vs)) (r : RelDs cA ast F ds vs) : IterOk cA ast F B (IteT K p) (enumD 0 ds) := fun i F1 H1 sF sH sB => by
  have hp : H1 p = some (.tup vs) := sB _ _ hb1
  refine ⟨fun hi => ⟨vs, SqT.of hp, by rw [← r.length, ← enumD_len ds 0, hi]⟩, fun d hd => ?_⟩
  obtain ⟨x, rfl, hx⟩ := enumD_get hd
  obtain ⟨v, hv, rv⟩ := r.get hx
  refine ⟨⟨vs, v, SqT.of hp, hv⟩, fun z H2 yl => ?_⟩
  obtain ⟨T, x', rfl, hT, rfl, f1⟩ := yl
  have e1 := f1 vs (SqT.of hp)
  rw [hv] at e1; cases e1
  exact .inr ⟨T, _, hT, rfl, tup2 (sH.none hT) (by show V.int _ = V.int _; simp) (RelD.mono sF _ _ rv)⟩
/-- both lists, or both tuples -/
def zip2 : D → D → Option (List D)
  | .lst xs, .lst ys => some (zipD xs ys)
  | .tup xs, .tup ys => some (zipD xs ys)
  | _, _ => none
def itZip (fo : Bool) (t : TGv) : TLv := fun env w => match t env w with
  | some ([x, y], env, w) => match argD env x with
    | some dx => match argD env y with
      | some dy => match zip2 dx dy with
        | some ds => if fo && (argOwn env x || argOwn env y) then none else some (ds, env, w)
        | none => none
      | none => none
    | none => none
  | _ => none
theorem itZip_some {fo : Bool} {t : TGv} {env : Env} {w : W} {ds : List D} {env' : Env} {w' : W} (e : itZip fo t env w = some (ds, env', w')) :
    ∃ x y dx dy, t env w = some ([x, y], env', w') ∧ argD env' x = some dx ∧ argD env' y = some dy ∧ zip2 dx dy = some ds ∧ (fo = true → argOwn env' x = false ∧ argOwn env' y = false) := by
  unfold itZip at e
  split at e
  · rename_i x y env1 w1 e1
    split at e
    · rename_i dx e2
      split at e
      · rename_i dy e3
        split at e
        · rename_i es e4
          split at e
          · cases e
          · rename_i hn
            cases e
            refine ⟨x, y, dx, dy, e1, e2, e3, e4, fun hf => ?_⟩
            subst hf
            simp only [Bool.true_and, Bool.not_eq_true, Bool.or_eq_false_iff] at hn
            exact hn
        · cases e
      · cases e
    · cases e
  · cases e
theorem zip_core {fo : Bool} {t : TGv} {σ τ : L2.St} {H : Hp} {R : It → Hp → Prop} {ast F0 H0 F env w ds env' w'} (I : SR cA ast F0 H0 F (σ ++ τ) H env w) (e : itZip fo t env w = some (ds, env', w'))
    (k : ∀ F' H' J B, SR cA ast F0 H0 F' (σ ++ τ) H' env' w' → Sub F F' → IterOk cA ast F' B J ds → Stands ast H' B → (fo = true → Lasts ast H0 F' H' B) → R J H') : RZ.iZipA K (rdR cA t) σ H R := by
  obtain ⟨x, y, dx, dy, e1, e2, e3, e4, hfo⟩ := itZip_some e
  refine rdR_mk I e1 fun F1 H1 vs I1 s1 r1 => ?_
  obtain ⟨v, r, rfl, rv, u, r', rfl, ru, rr⟩ := r1
  cases rr
  cases dx with
  | lst xs =>
    cases dy with
    | lst ys =>
      cases e4
      obtain ⟨p, vs, rfl, pa, rs, hc, hl⟩ := arg_see I1 rv e2 rfl
      obtain ⟨q, us, rfl, qa, rs2, hc2, hl2⟩ := arg_see I1 ru e3 rfl
      have hp : H1 p = some (.lst vs) := hc.elim (fun z => z.2) fun z => nomatch z.1
      have hq : H1 q = some (.lst us) := hc2.elim (fun z => z.2) fun z => nomatch z.1
      have b1 : twoH p (.lst vs) q (.lst us) p = some (.lst vs) := by unfold twoH; rw [if_pos rfl]
      have b2 : twoH p (.lst vs) q (.lst us) q = some (.lst us) := by
        unfold twoH
        by_cases z : q = p
        · rw [if_pos z]; rw [z, hp] at hq; cases hq; rfl
        · rw [if_neg z, if_pos rfl]
      refine ⟨p, q, vs, us, rfl, .inl ⟨SqL.of hp, SqL.of hq, k F1 H1 _ (twoH p (.lst vs) q (.lst us)) I1 s1 (iter_zipL b1 b2 rs rs2) (fun b o eb => ?_) fun hf b o eb => ?_⟩⟩
      · rcases twoH_some eb with ⟨rfl, rfl⟩ | ⟨rfl, rfl⟩
        · exact ⟨hp, pa⟩
        · exact ⟨hq, qa⟩
      · obtain ⟨n1, n2⟩ := hfo hf
        rcases twoH_some eb with ⟨rfl, rfl⟩ | ⟨rfl, rfl⟩
        · exact ⟨hp, pa, hl.elim (fun z => by rw [n1] at z; cases z) id⟩
        · exact ⟨hq, qa, hl2.elim (fun z => by rw [n2] at z; cases z) id⟩
    | _ => cases e4
  | tup xs =>
    cases dy with
    | tup ys =>
      cases e4
      obtain ⟨p, vs, rfl, pa, rs, hc, hl⟩ := arg_see I1 rv e2 rfl
      obtain ⟨q, us, rfl, qa, rs2, hc2, hl2⟩ := arg_see I1 ru e3 rfl
      have hp : H1 p = some (.tup vs) := hc.elim (fun z => nomatch z.1) fun z => z.2
      have hq : H1 q = some (.tup us) := hc2.elim (fun z => nomatch z.1) fun z => z.2
      have b1 : twoH p (.tup vs) q (.tup us) p = some (.tup vs) := by unfold twoH; rw [if_pos rfl]
      have b2 : twoH p (.tup vs) q (.tup us) q = some (.tup us) := by
        unfold twoH
        by_cases z : q = p
        · rw [if_pos z]; rw [z, hp] at hq; cases hq; rfl
        · rw [if_neg z, if_pos rfl]
      refine ⟨p, q, vs, us, rfl, .inr ⟨SqT.of hp, SqT.of hq, k F1 H1 _ (twoH p (.tup vs) q (.tup us)) I1 s1 (iter_zipT b1 b2 rs rs2) (fun b o eb => ?_) fun hf b o eb => ?_⟩⟩
      · rcases twoH_some eb with ⟨rfl, rfl⟩ | ⟨rfl, rfl⟩
        · exact ⟨hp, pa⟩
        · exact ⟨hq, qa⟩
      · obtain ⟨n1, n2⟩ := hfo hf
        rcases twoH_some eb with ⟨rfl, rfl⟩ | ⟨rfl, rfl⟩
        · exact ⟨hp, pa, hl.elim (fun z => by rw [n1] at z; cases z) id⟩
        · exact ⟨hq, qa, hl2.elim (fun z => by rw [n2] at z; cases z) id⟩
    | _ => cases e4
  | _ => cases e4
section
variable {elts : List Expr} {kk : Nat} {tpos p : Pos} {t : TGv}
theorem pI_zip (hg : Gl X "zip") (hm : X.mg "zip" = none) (ha : PA X [a, b] (rdR cA t)) (hs : starEach [a, b] X.env = (false, eval a X.env) :: starEach [b] X.env := by rfl) (hpl : (backTo pos (starEach [b] X.env)).any (·.1) = false := by rfl) :
    PI X (.Tuple elts kk tpos) (.Call (.Name "zip" p) [a, b] [] pos) (rdI cA (itZip true t)) :=
  PI.imp (RZ.pi_zipA hg hm ha hs hpl) fun σ H R ⟨ast, F0, H0, F, τ, env, w, d, env', w', I, ee, k⟩ => zip_core I ee fun F1 H1 J B I1 s1 it st l => k F1 H1 J B I1 s1 it (l rfl)
theorem pJ_zip (hg : Gl X "zip") (hm : X.mg "zip" = none) (ha : PA X [a, b] (rdR cA t)) (hs : starEach [a, b] X.env = (false, eval a X.env) :: starEach [b] X.env := by rfl) (hpl : (backTo pos (starEach [b] X.env)).any (·.1) = false := by rfl) :
    PI X (.Tuple elts kk tpos) (.Call (.Name "zip" p) [a, b] [] pos) (rdJ cA (itZip false t)) :=
  PI.imp (RZ.pi_zipA hg hm ha hs hpl) fun σ H R ⟨ast, F0, H0, F, τ, env, w, d, env', w', I, ee, k⟩ => zip_core I ee fun F1 H1 J B I1 s1 it st l => k F1 H1 J B I1 s1 it st
def itEnum (fo : Bool) (t : TGv) : TLv := fun env w => match t env w with
  | some ([x], env, w) => match argD env x with
    | some dx => match seqD dx with
      | some ds => if fo && argOwn env x then none else some (enumD 0 ds, env, w)
      | none => none
    | none => none
  | _ => none
theorem enum_core {fo : Bool} {σ τ : L2.St} {H : Hp} {R : It → Hp → Prop} {ast F0 H0 F env w ds env' w'} (I : SR cA ast F0 H0 F (σ ++ τ) H env w) (e : itEnum fo t env w = some (ds, env', w'))
    (k : ∀ F' H' J B, SR cA ast F0 H0 F' (σ ++ τ) H' env' w' → Sub F F' → IterOk cA ast F' B J ds → Stands ast H' B → (fo = true → Lasts ast H0 F' H' B) → R J H') : iEnumA K (rdR cA t) σ H R := by
  unfold itEnum at e
  split at e
  · rename_i x env1 w1 e1
    split at e
    · rename_i dx e2
      split at e
      · rename_i es e3
        split at e
        · cases e
        · rename_i hn
          cases e
          refine rdR_mk I e1 fun F1 H1 vs I1 s1 r1 => ?_
          obtain ⟨v, r, rfl, rv, rr⟩ := r1
          cases rr
          obtain ⟨p, vs, rfl, pa, rs, hc, hl⟩ := arg_see I1 rv e2 e3
          have lst : fo = true → F1 p ≠ none ∨ H0 p ≠ none := fun hf => hl.elim (fun z => by subst hf; rw [z] at hn; exact absurd rfl hn) id
          rcases hc with ⟨_, hp⟩ | ⟨_, hp⟩
          · refine ⟨p, vs, rfl, .inl ⟨SqL.of hp, k F1 H1 _ (oneH p (.lst vs)) I1 s1 (iter_enumL oneH_same rs) (fun b o eb => ?_) fun hf b o eb => ?_⟩⟩
            · obtain ⟨rfl, rfl⟩ := oneH_some eb; exact ⟨hp, pa⟩
            · obtain ⟨rfl, rfl⟩ := oneH_some eb; exact ⟨hp, pa, lst hf⟩
          · refine ⟨p, vs, rfl, .inr ⟨SqT.of hp, k F1 H1 _ (oneH p (.tup vs)) I1 s1 (iter_enumT oneH_same rs) (fun b o eb => ?_) fun hf b o eb => ?_⟩⟩
            · obtain ⟨rfl, rfl⟩ := oneH_some eb; exact ⟨hp, pa⟩
            · obtain ⟨rfl, rfl⟩ := oneH_some eb; exact ⟨hp, pa, lst hf⟩
      · cases e
    · cases e
  · cases e
theorem pI_enum (hg : Gl X "enumerate") (hm : X.mg "enumerate" = none) (ha : PA X [a] (rdR cA t)) (hs : starEach [a] X.env = [(false, eval a X.env)] := by rfl) :
    PI X (.Tuple elts kk tpos) (.Call (.Name "enumerate" p) [a] [] pos) (rdI cA (itEnum true t)) :=
  PI.imp (pi_enumA hg hm ha hs) fun σ H R ⟨ast, F0, H0, F, τ, env, w, d, env', w', I, ee, k⟩ => enum_core I ee fun F1 H1 J B I1 s1 it st l => k F1 H1 J B I1 s1 it (l rfl)
theorem pJ_enum (hg : Gl X "enumerate") (hm : X.mg "enumerate" = none) (ha : PA X [a] (rdR cA t)) (hs : starEach [a] X.env = [(false, eval a X.env)] := by rfl) :
    PI X (.Tuple elts kk tpos) (.Call (.Name "enumerate" p) [a] [] pos) (rdJ cA (itEnum false t)) :=
  PI.imp (pi_enumA hg hm ha hs) fun σ H R ⟨ast, F0, H0, F, τ, env, w, d, env', w', I, ee, k⟩ => enum_core I ee fun F1 H1 J B I1 s1 it st l => k F1 H1 J B I1 s1 it st
end
/-! ### targets -/
/-- what a target does to the slots -/
abbrev Tgv := D → Env → Option Env
theorem wipe_set {σ : L2.St} {i : Nat} {x : Option V} : ∀ {vs : List Nat}, i ∈ vs → wipe (σ.set i x) vs = wipe σ vs
  | v :: vs, h => by
    unfold wipe
    by_cases hv : i = v
    · subst hv
      by_cases hm : i ∈ vs
      · rw [wipe_set hm]
      · have key : ∀ (l : List Nat), i ∉ l → (wipe (σ.set i x) l).set i none = (wipe σ l).set i none := by
          intro l
          induction l with
          | nil => intro _; show (σ.set i x).set i none = σ.set i none; rw [List.set_set]
          | cons u l ih =>
            intro hl
            simp only [List.mem_cons, not_or] at hl
            show ((wipe (σ.set i x) l).set u none).set i none = ((wipe σ l).set u none).set i none
            rw [List.set_comm _ _ (Ne.symm hl.1), ih hl.2, List.set_comm _ _ (Ne.symm hl.1)]
        exact key vs hm
    · have hm : i ∈ vs := by
        rcases List.mem_cons.mp h with q | q
        · exact absurd q hv
        · exact q
      rw [wipe_set hm]
def rdTg (cA : Nat → Addr) (vs : List Nat) (g : Tgv) : TG := fun v σ H Q => ∃ ast F0 H0 F τ env w d env', SR cA ast F0 H0 F (σ ++ τ) H env w ∧ RelD cA ast F d v ∧ g d env = some env' ∧
  ∀ σ', SR cA ast F0 H0 F (σ' ++ τ) H env' w → wipe σ' vs = wipe σ vs → Q σ' H
theorem PG.imp {tg : Expr} {t t' : TG} (h : PG X tg t) (i : ∀ v σ H Q, t' v σ H Q → t v σ H Q) : PG X tg t' := ⟨fun p s σ H v u Q I r q => h.run p s σ H v u Q I r (i _ _ _ _ q)⟩
/-- only a def's own slots -/
def tgName (i : Nat) : Tgv := fun d env => some (env.set i (.fr d))
theorem pG_name {i : Nat} {x : Str} {vs : List Nat} (h : PG X (.Name x pos) (gName i)) (hi : i < X.N.length) (hm : i ∈ vs) : PG X (.Name x pos) (rdTg cA vs (tgName i)) :=
  ⟨fun p s σ H v u Q I r ⟨ast, F0, H0, F, τ, env, w, d, env', J, rd, e, k⟩ => h.run p s σ H v u Q I r (by
    cases e
    refine k _ ?_ (wipe_set hm)
    have := J.put (i := i) rd
    rwa [List.set_append_left _ _ (by rw [I.len]; exact hi)] at this)⟩
abbrev Tgsv := List D → Env → Option Env
def rdTgs (cA : Nat → Addr) (vs : List Nat) (g : Tgsv) : TGs := fun us σ H Q => ∃ ast F0 H0 F τ env w ds env', SR cA ast F0 H0 F (σ ++ τ) H env w ∧ RelDs cA ast F ds us ∧ g ds env = some env' ∧
  ∀ σ', SR cA ast F0 H0 F (σ' ++ τ) H env' w → wipe σ' vs = wipe σ vs → Q σ' H
theorem PGs.imp {ts : List Expr} {t t' : TGs} (h : PGs X ts t) (i : ∀ v σ H Q, t' v σ H Q → t v σ H Q) : PGs X ts t' := ⟨fun p s σ H v u Q I r q => h.run p s σ H v u Q I r (i _ _ _ _ q)⟩
def tgNil : Tgsv := fun ds env => match ds with
  | [] => some env
  | _ => none
def tgCons (g : Tgv) (r : Tgsv) : Tgsv := fun ds env => match ds with
  | d :: ds => match g d env with
    | some env => r ds env
    | none => none
  | [] => none
theorem pGs_nil {vs : List Nat} : PGs X [] (rdTgs cA vs tgNil) := PGs.imp pgs_nil fun v σ H Q ⟨ast, F0, H0, F, τ, env, w, ds, env', I, r, e, k⟩ => by
  unfold tgNil at e
  split at e
  · cases e; exact ⟨r, k _ I rfl⟩
  · cases e
theorem pGs_cons {vs : List Nat} {es : List Expr} {g : Tgv} {r : Tgsv} (h1 : PG X e (rdTg cA vs g)) (h2 : PGs X es (rdTgs cA vs r)) (hs : (assignEach (e :: es) X.env).map (·.2) = assign e X.env :: (assignEach es X.env).map (·.2) := by rfl) : PGs X (e :: es) (rdTgs cA vs (tgCons g r)) :=
  PGs.imp (pgs_cons h1 h2 hs) fun v σ H Q ⟨ast, F0, H0, F, τ, env, w, ds, env', I, rr, ee, k⟩ => by
    unfold tgCons at ee
    split at ee
    · rename_i d ds'
      obtain ⟨u, us, rfl, r1, r2⟩ := rr
      split at ee
      · rename_i env1 e1
        exact ⟨u, us, rfl, ast, F0, H0, F, τ, env, w, d, env1, I, r1, e1, fun σ1 I1 w1 => ⟨ast, F0, H0, F, τ, env1, w, ds', env', I1, r2, ee, fun σ2 I2 w2 => k σ2 I2 (w2.trans w1)⟩⟩
      · cases ee
    · cases ee
def tgTup (n : Nat) (g : Tgsv) : Tgv := fun d env => match d with
  | .tup ds => if Nat.beq ds.length n then g ds env else none
  | _ => none
theorem pG_tup {vs : List Nat} {es : List Expr} {k n : Nat} {g : Tgsv} (hc : X.calm = true) (h : PGs X es (rdTgs cA vs g)) (hn : (assignEach es X.env).length = n := by rfl) (hst : (assignEach es X.env).findIdx? (·.1) = none := by rfl) : PG X (.Tuple es k pos) (rdTg cA vs (tgTup n g)) :=
  PG.imp (pg_tup hc h hn hst) fun v σ H Q ⟨ast, F0, H0, F, τ, env, w, d, env', I, r, ee, kk⟩ => by
    unfold tgTup at ee
    split at ee
    · rename_i ds
      split at ee
      · rename_i hl
        obtain ⟨p, us, rfl, hp, rs⟩ := r
        exact ⟨p, us, rfl, SqT.of (I.so.sub _ _ hp), by rw [← rs.length]; exact Nat.eq_of_beq_eq_true hl, ast, F0, H0, F, τ, env, w, ds, env', I, rs, ee, kk⟩
      · cases ee
    · cases ee
end Ev

namespace Ev
open PySem L2 PySem.Spec PyProof.Rows
variable {cA : Nat → Addr} {X : Cx} {a b c e : Expr} {ta tb tc te : TEv} {pos : Pos} {K : PySem.W.Frag}

/-! ### for -/
def forL (g : Tgv) (body : TSv) : List D → TSv
  | [], env, w => some (.nx env w)
  | d :: ds, env, w => match g d env with
    | some env => match body env w with
      | some (.nx env w) => forL g body ds env w
      | some (.ct env w) => forL g body ds env w
      | some (.bk env w) => some (.nx env w)
      | r => r
    | none => none
def stFor (t : TLv) (g : Tgv) (body : TSv) : TSv := fun env w => match t env w with
  | some (items, env, w) => forL g body items env w
  | none => none
theorem Lasts.sub {ast F0 H0 F1 H1 B F H} {ξ ξ' : L2.St} {env env' w w'} (l : Lasts ast H0 F1 H1 B) (I1 : SR cA ast F0 H0 F1 ξ H1 env w) (I : SR cA ast F0 H0 F ξ' H env' w') (s : Sub F1 F) : Sub B H := fun b o e => by
  obtain ⟨h1, na, h⟩ := l b o e
  rcases h with h | h
  · cases q : F1 b with
    | none => exact absurd q h
    | some u =>
      have : H1 b = some u := I1.so.sub _ _ q
      rw [h1] at this; cases this
      exact I.so.sub _ _ (s _ _ q)
  · cases q : H0 b with
    | none => exact absurd q h
    | some u =>
      have : H1 b = some u := I1.fx.hk _ _ na q
      rw [h1] at this; cases this
      exact I.fx.hk _ _ na q
/-- what comes of a turn's item -/
theorem item_in {ast F0 H0 F} {ξ : L2.St} {H H2 env w} {d : D} {x : V} (I : SR cA ast F0 H0 F ξ H env w) (h : (H2 = H ∧ RelD cA ast F d x) ∨ ∃ p o, H p = none ∧ H2 = upd H p o ∧ RelD cA ast (upd F p o) d x) :
    ∃ F2, SR cA ast F0 H0 F2 ξ H2 env w ∧ Sub F F2 ∧ RelD cA ast F2 d x := by
  rcases h with ⟨rfl, r⟩ | ⟨p, o, hp, rfl, r⟩
  · exact ⟨F, I, Sub.rfl', r⟩
  · exact ⟨_, I.alloc hp, Sub.upd (I.so.sub.none hp), r⟩
theorem drop_cons {α : Type} {l : List α} {i : Nat} {x : α} {r : List α} (h : l.drop i = x :: r) : l[i]? = some x ∧ l.drop (i + 1) = r ∧ i < l.length := by
  have h1 : i < l.length := by
    rcases Nat.lt_or_ge i l.length with q | q
    · exact q
    · rw [List.drop_of_length_le q] at h; cases h
  rw [List.drop_eq_getElem_cons h1] at h
  injection h with e1 e2
  exact ⟨by rw [List.getElem?_eq_getElem h1, e1], e2, h1⟩
theorem pS_for {tg iter : Expr} {body : List Stmt} {t : TLv} {g : Tgv} {tb : TSv} {vs : List Nat} (hp : PassesOwn (model X.prog X.w) X.A X.env X.xe) (hc : X.calm = true) (hi : PI X tg iter (rdI cA t)) (hg : PG X tg (rdTg cA vs g)) (hb : PSs X body (rdS cA tb))
    (hs : ∀ x, foldedSetIterable iter X.env x = pure x := by intro _; rfl) : PS X (.For tg iter body [] pos) (rdS cA (stFor t g tb)) :=
  PS.imp (ps_for hp hc hi hg hb hs) fun Dd σ H ⟨ast, F0, H0, F, env, w, fl, I, ee, k⟩ => by
    unfold stFor at ee
    split at ee
    · rename_i items env1 w1 e1
      refine ⟨ast, F0, H0, F, [], env, w, items, env1, w1, sr0 I, e1, fun F1 H1 J B I1 s1 it l => ?_⟩
      have I1 := sr1 I1
      refine ⟨fun i m σ H => m = items.length - i ∧ i ≤ items.length ∧ ∃ F env w, SR cA ast F0 H0 F σ H env w ∧ Sub F1 F ∧ forL g tb (items.drop i) env w = some fl, ⟨_, rfl, Nat.zero_le _, F1, env1, w1, I1, Sub.rfl', ee⟩, ?_⟩
      rintro i m σ2 H2 ⟨rfl, hil, F2, env2, w2, I2, s2, e2⟩
      have sB : Sub B H2 := l.sub I1 I2 s2
      obtain ⟨st, go⟩ := it i F2 H2 s2 I2.so.sub sB
      cases hd : items.drop i with
      | nil =>
        have hl : items.length ≤ i := by
          have := congrArg List.length hd
          simp at this
          omega
        rw [hd] at e2
        cases e2
        exact .inl ⟨st (by omega), k _ _ _ I2 (s1.trans s2)⟩
      | cons d rest =>
        obtain ⟨h1, h2, h3⟩ := drop_cons hd
        obtain ⟨g1, g2⟩ := go d h1
        refine .inr ⟨g1, fun σ' H' => ∃ F env w, SR cA ast F0 H0 F σ' H' env w ∧ Sub F1 F ∧ forL g tb (items.drop (i + 1)) env w = some fl, fun σ' H' ⟨F', env', w', I', s', e'⟩ => ⟨items.length - (i + 1), by omega, rfl, h3, F', env', w', I', s', e'⟩, fun x H3 y => ?_⟩
        obtain ⟨F3, I3, s3, r3⟩ := item_in I2 (g2 x H3 y)
        rw [hd] at e2
        simp only [forL] at e2
        split at e2
        · rename_i env3 e3
          refine ⟨ast, F0, H0, F3, [], env2, w2, d, env3, sr0 I3, r3, e3, fun σ4 I4 _ => ?_⟩
          have I4 := sr1 I4
          have s13 : Sub F1 F3 := s2.trans s3
          cases hb' : tb env3 w2 with
          | none => simp only [hb'] at e2; cases e2
          | some fl' =>
            rw [hb'] at e2
            refine rdS_mk I4 hb' ?_
            cases fl' with
            | nx env4 w4 => exact fun F5 H5 σ5 I5 s5 => ⟨F5, env4, w4, I5, s13.trans s5, by rw [h2]; exact e2⟩
            | ct env4 w4 => exact fun F5 H5 σ5 I5 s5 => ⟨F5, env4, w4, I5, s13.trans s5, by rw [h2]; exact e2⟩
            | bk env4 w4 =>
              cases e2
              exact fun F5 H5 σ5 I5 s5 => k F5 H5 σ5 I5 (s1.trans (s13.trans s5))
            | rt d4 w4 =>
              cases e2
              exact fun F5 H5 v5 fx so r => k F5 H5 v5 fx so r
        · cases e2
    · cases ee
/-! ### while -/
def whL (c : TBv) (body : TSv) : Nat → TSv
  | 0, _, _ => none
  | n + 1, env, w => match c env w with
    | some (true, env, w) => match body env w with
      | some (.nx env w) => whL c body n env w
      | some (.ct env w) => whL c body n env w
      | some (.bk env w) => some (.nx env w)
      | r => r
    | some (false, env, w) => some (.nx env w)
    | none => none
def stWhile (n : Nat) (c : TBv) (body : TSv) : TSv := whL c body n
theorem pS_while {n : Nat} {body : List Stmt} {tc : TBv} {tb : TSv} (hp : PassesOwn (model X.prog X.w) X.A X.env X.xe) (hc : PT X c (rdT cA tc)) (hb : PSs X body (rdS cA tb)) : PS X (.While c body [] pos) (rdS cA (stWhile n tc tb)) :=
  PS.imp (ps_while hp hc hb) fun Dd σ H ⟨ast, F0, H0, F, env, w, fl, I, ee, k⟩ => by
    refine ⟨fun m σ H => ∃ F' env w, SR cA ast F0 H0 F' σ H env w ∧ Sub F F' ∧ whL tc tb m env w = some fl, ⟨n, F, env, w, I, Sub.rfl', ee⟩, ?_⟩
    rintro m σ2 H2 ⟨F2, env2, w2, I2, s2, e2⟩
    cases m with
    | zero => cases e2
    | succ m =>
      simp only [whL] at e2
      split at e2
      · rename_i env3 w3 e3
        refine rdT_mk (sr0 I2) e3 fun F3 H3 I3 s3 => iteT ⟨fun σ' H' => ∃ F' env w, SR cA ast F0 H0 F' σ' H' env w ∧ Sub F F' ∧ whL tc tb m env w = some fl, fun σ' H' q => ⟨m, Nat.lt_succ_self _, q⟩, ?_⟩
        have s13 := s2.trans s3
        cases hb' : tb env3 w3 with
        | none => simp only [hb'] at e2; cases e2
        | some fl' =>
          rw [hb'] at e2
          refine rdS_mk (sr1 I3) hb' ?_
          cases fl' with
          | nx env4 w4 => exact fun F5 H5 σ5 I5 s5 => ⟨F5, env4, w4, I5, s13.trans s5, e2⟩
          | ct env4 w4 => exact fun F5 H5 σ5 I5 s5 => ⟨F5, env4, w4, I5, s13.trans s5, e2⟩
          | bk env4 w4 =>
            cases e2
            exact fun F5 H5 σ5 I5 s5 => k F5 H5 σ5 I5 (s13.trans s5)
          | rt d4 w4 =>
            cases e2
            exact fun F5 H5 v5 fx so r => k F5 H5 v5 fx so r
      · rename_i env3 w3 e3
        cases e2
        exact rdT_mk (sr0 I2) e3 fun F3 H3 I3 s3 => iteF (k F3 H3 _ (sr1 I3) (s2.trans s3))
      · cases e2
/-! ### list comprehensions -/
def toB : SV → SV
  | .own d => .bor d
  | s => s
def wipeE (env : Env) : List Nat → Env
  | [] => env
  | v :: vs => (wipeE env vs).set v .no
theorem wipeE_len (env : Env) : ∀ vs, (wipeE env vs).length = env.length
  | [] => rfl
  | v :: vs => by unfold wipeE; rw [List.length_set, wipeE_len env vs]
theorem wipeE_get {env : Env} {j : Nat} {s : SV} : ∀ {vs : List Nat}, (wipeE env vs)[j]? = some s → s = .no ∨ (env[j]? = some s ∧ j ∉ vs)
  | [], h => .inr ⟨h, by simp⟩
  | v :: vs, h => by
    unfold wipeE at h
    by_cases hv : v = j
    · subst hv
      by_cases hl : v < (wipeE env vs).length
      · rw [List.getElem?_set_self hl] at h; cases h; exact .inl rfl
      · rw [List.getElem?_eq_none (by simpa using hl)] at h; cases h
    · rw [List.getElem?_set_ne hv] at h
      rcases wipeE_get h with q | ⟨q, q2⟩
      · exact .inl q
      · refine .inr ⟨q, ?_⟩
        simp only [List.mem_cons, not_or]
        exact ⟨fun z => hv z.symm, q2⟩
theorem wipe_at {σ : L2.St} {j : Nat} : ∀ {vs : List Nat}, j ∉ vs → (wipe σ vs)[j]? = σ[j]?
  | [], _ => rfl
  | v :: vs, h => by
    simp only [List.mem_cons, not_or] at h
    unfold wipe
    rw [List.getElem?_set_ne (Ne.symm h.1)]
    exact wipe_at h.2
theorem wipe_in {σ : L2.St} {j : Nat} : ∀ {vs : List Nat}, j ∈ vs → (wipe σ vs)[j]? = if j < σ.length then some none else none
  | v :: vs, h => by
    unfold wipe
    by_cases hv : v = j
    · subst hv
      rw [List.getElem?_set]
      simp only [if_true, wipe_length]
    · have hm : j ∈ vs := by
        rcases List.mem_cons.mp h with q | q
        · exact absurd q.symm hv
        · exact q
      rw [List.getElem?_set_ne hv]
      exact wipe_in hm
theorem wipe_wipe (σ : L2.St) (vs : List Nat) : wipe (wipe σ vs) vs = wipe σ vs := by
  apply List.ext_getElem?
  intro j
  by_cases h : j ∈ vs
  · rw [wipe_in h, wipe_in h, wipe_length]
  · rw [wipe_at h]
/-- within the block: nothing is one's own -/
theorem SR.inn {ast F0 H0 F} {σ τ : L2.St} {H env w} (I : SR cA ast F0 H0 F (σ ++ τ) H env w) {vs : List Nat} (hv : ∀ v ∈ vs, v < σ.length) : SR cA ast F H F (wipe σ vs ++ τ) H (wipeE (env.map toB) vs) w := by
  refine ⟨Fx.rfl', I.so, fun j s e => ?_, fun i j d e v n h1 _ _ _ => ?_, by rw [wipeE_len, List.length_map, I.len, List.length_append, List.length_append, wipe_length]⟩
  · rcases wipeE_get e with q | ⟨q, q2⟩
    · subst q; trivial
    · have ha : at_ (wipe σ vs ++ τ) j = at_ (σ ++ τ) j := by
        unfold at_
        by_cases hj : j < σ.length
        · rw [List.getElem?_append_left (by rw [wipe_length]; exact hj), List.getElem?_append_left hj, wipe_at q2]
        · rw [List.getElem?_append_right (by rw [wipe_length]; omega), List.getElem?_append_right (by omega), wipe_length]
      rw [ha]
      rw [List.getElem?_map] at q
      cases q3 : env[j]? with
      | none => rw [q3] at q; cases q
      | some s' =>
        rw [q3] at q
        cases q
        have z := I.slots _ _ q3
        have hn : ∀ {d : D} {v : V}, RelU cA ast F H d v → ∀ a, v = .ref a → H a ≠ none := fun {d v} r a ea => by
          obtain ⟨b, o, eb, _, hb⟩ := r.at
          rw [ea] at eb; cases eb
          rw [hb]; exact fun z => nomatch z
        cases s' with
        | no => trivial
        | fr d => exact z
        | own d => obtain ⟨v, e1, r, k, _⟩ := z; exact ⟨v, e1, r, fun a ea => ⟨hn r a ea, (k a ea).2⟩⟩
        | bor d => obtain ⟨v, e1, r, k⟩ := z; exact ⟨v, e1, r, fun a ea => ⟨hn r a ea, (k a ea).2⟩⟩
  · rcases wipeE_get h1 with q | ⟨q, _⟩
    · cases q
    · rw [List.getElem?_map] at q
      cases q3 : env[i]? with
      | none => rw [q3] at q; cases q
      | some s' =>
        rw [q3] at q
        cases s' <;> cases q
def lcL (g : Tgv) (tt : TBv) (te : TEv) (env : Env) : List D → W → Option (List D × W)
  | [], w => some ([], w)
  | d :: ds, w => match g d env with
    | some env1 => match tt env1 w with
      | some (true, env2, w) => match te env2 w with
        | some (y, _, w) => match lcL g tt te env ds w with
          | some (ys, w) => some (y :: ys, w)
          | none => none
        | none => none
      | some (false, _, w) => lcL g tt te env ds w
      | none => none
    | none => none
def evLc (vs : List Nat) (t : TLv) (g : Tgv) (tt : TBv) (te : TEv) : TEv := fun env w => match t env w with
  | some (items, env, w) => match lcL g tt te (wipeE (env.map toB) vs) items w with
    | some (ds, w) => if few ds.length then some (.lst ds, env, w) else none
    | none => none
  | none => none
theorem lcL_len {g : Tgv} {tt : TBv} {te : TEv} {env : Env} : ∀ {ds : List D} {w : W} {r : List D} {w' : W}, lcL g tt te env ds w = some (r, w') → True := fun _ => trivial
theorem rd_lc {vs : List Nat} {t : TLv} {g : Tgv} {tt : TBv} {te : TEv} {σ : L2.St} {H : Hp} {Q : VK} (hv : ∀ v ∈ vs, v < σ.length) (q : rdN cA (evLc vs t g tt te) σ H Q) :
    tLc (rdJ cA t) (rdTg cA vs g) (rdT cA tt) (rdE cA te) vs σ H Q := by
  obtain ⟨ast, F0, H0, F, τ, env, w, d, env', w', I, ee, k⟩ := q
  unfold evLc at ee
  split at ee
  · rename_i items env1 w1 e1
    split at ee
    · rename_i ds w2 e2
      split at ee
      · rename_i hfew
        obtain ⟨rfl, rfl, rfl⟩ : d = .lst ds ∧ env1 = env' ∧ w2 = w' := by cases ee; exact ⟨rfl, rfl, rfl⟩
        refine ⟨ast, F0, H0, F, τ, env, w, items, _, w1, I, e1, fun F1 H1 J B I1 s1 it stB Da hD => ?_⟩
        have fD : F1 Da = none := I1.so.sub.none hD
        have nD : Da ≠ ast := fun z => by rw [z, I1.so.hst] at hD; cases hD
        have line : ∀ {n : Nat}, n ≤ ds.length → n ≤ sizeLine := fun h => Nat.le_trans h (few_line hfew)
        refine ⟨fun i m H => m = items.length - i ∧ i ≤ items.length ∧ ∃ (F : Hp) (w : W) (acc : List D) (vals : List V) (rest : List D), Fx ast F1 H1 F H ∧ StOk ast F H w ∧ H Da = some (.lst vals) ∧ F Da = none ∧ RelDs cA ast F acc vals ∧
          lcL g tt te (wipeE (env1.map toB) vs) (items.drop i) w = some (rest, w2) ∧ acc ++ rest = ds, ⟨_, rfl, Nat.zero_le _, F1, w1, [], [], ds, ?_, ?_, upd_same, fD, rfl, e2, rfl⟩, ?_⟩
        · exact ⟨Sub.rfl', fun a o _ h => Sub.upd hD a o h, fun a h => .inl h⟩
        · exact ⟨fun a o h => Sub.upd hD _ _ (I1.so.sub _ _ h), I1.so.fst, Sub.upd hD _ _ I1.so.hst⟩
        · rintro i m H2 ⟨rfl, hil, F2, w3, acc, vals, rest, fx2, so2, hDa, fDa, racc, e3, e4⟩
          have I2 : SR cA ast F0 H0 F2 (σ ++ τ) H2 env1 w3 := I1.step fx2 so2
          have sB : Sub B H2 := fun b o eb => by
            obtain ⟨h1, na⟩ := stB b o eb
            exact fx2.hk b o na h1
          obtain ⟨st, go⟩ := it i F2 H2 fx2.fz so2.sub sB
          cases hd : items.drop i with
          | nil =>
            have hl : items.length ≤ i := by
              have := congrArg List.length hd
              simp at this
              omega
            rw [hd] at e3
            cases e3
            rw [List.append_nil] at e4
            subst e4
            refine .inl ⟨st (by omega), k F2 H2 _ ?_ (s1.trans fx2.fz)⟩
            -- the new list on top
            have h0 : H0 Da = none := by
              cases q : H0 Da with
              | none => rfl
              | some u => rw [I1.fx.hk Da u nD q] at hD; cases hD
            have hlen := I2.len
            have no : ∀ {j : Nat} {c : D}, env1[j]? = some (.own c) → at_ (σ ++ τ) j = some (.ref Da) → False := fun {j c} e5 e6 => by
              obtain ⟨v, e7, r7, _⟩ := I1.slots _ _ e5
              rw [e6] at e7
              cases e7
              obtain ⟨b, o, eb, _, hb⟩ := r7.at
              cases eb
              rw [hD] at hb; cases hb
            have old : ∀ {j : Nat} {s}, (env1 ++ [SV.own (.lst acc)])[j]? = some s → (j < env1.length ∧ env1[j]? = some s ∧ at_ (σ ++ τ ++ [some (.ref Da)]) j = at_ (σ ++ τ) j) ∨ (j = env1.length ∧ s = .own (.lst acc) ∧ at_ (σ ++ τ ++ [some (.ref Da)]) j = some (.ref Da)) := by
              intro j s e
              by_cases hj : j < env1.length
              · rw [List.getElem?_append_left hj] at e
                refine .inl ⟨hj, e, ?_⟩
                unfold at_
                rw [List.getElem?_append_left (by omega)]
              · have : j < (env1 ++ [SV.own (.lst acc)]).length := (List.getElem?_eq_some_iff.mp e).1
                have hj' : j = env1.length := by simp at this; omega
                subst hj'
                simp at e
                refine .inr ⟨rfl, e.symm, ?_⟩
                unfold at_
                rw [hlen]
                simp
            refine ⟨I2.fx, I2.so, fun j s e => ?_, fun a b c d' v n h1 h2 a1 a2 => ?_, by simp [hlen] <;> omega⟩
            · rcases old e with ⟨_, e5, e6⟩ | ⟨_, e5, e6⟩
              · rw [e6]; exact I2.slots _ _ e5
              · subst e5; rw [e6]; exact ⟨_, rfl, ⟨Da, vals, rfl, fDa, hDa, racc⟩, (fun a ea => by cases ea; exact ⟨h0, nD⟩), fun z => nomatch z⟩
            · rcases old h1 with ⟨l1, e5, e6⟩ | ⟨l1, e5, e6⟩ <;> rcases old h2 with ⟨k1, g1, g2⟩ | ⟨k1, g1, g2⟩
              · exact I2.dist a b c d' v n e5 g1 (e6 ▸ a1) (g2 ▸ a2)
              · rw [g2] at a2; cases a2; exact no e5 (e6 ▸ a1)
              · rw [e6] at a1; cases a1; exact no g1 (g2 ▸ a2)
              · exact n (l1.trans k1.symm)
          | cons d rst =>
            obtain ⟨h1, h2, h3⟩ := drop_cons hd
            obtain ⟨g1, g2⟩ := go d h1
            rw [hd] at e3
            simp only [lcL] at e3
            refine .inr ⟨g1, fun H => i + 1 ≤ items.length ∧ ∃ (F : Hp) (w : W) (acc : List D) (vals : List V) (rest : List D), Fx ast F1 H1 F H ∧ StOk ast F H w ∧ H Da = some (.lst vals) ∧ F Da = none ∧ RelDs cA ast F acc vals ∧
              lcL g tt te (wipeE (env1.map toB) vs) (items.drop (i + 1)) w = some (rest, w2) ∧ acc ++ rest = ds, fun H' q => ⟨items.length - (i + 1), by omega, rfl, q⟩, fun x H3 y => ?_⟩
            have I3 := I2.inn hv
            obtain ⟨F4, I4, s4, r4⟩ := item_in I3 (g2 x H3 y)
            split at e3
            · rename_i env5 e5
              refine ⟨ast, F2, H2, F4, τ, _, w3, d, env5, I4, r4, e5, fun σ5 I5 hw5 => ⟨hw5.trans (wipe_wipe σ vs), ?_⟩⟩
              split at e3
              · rename_i env6 w6 e6
                split at e3
                · rename_i yv env7 w7 e7
                  split at e3
                  · rename_i ys w8 e8
                    cases e3
                    refine rdT_mk I5 e6 fun F6 H6 I6 s6 => iteT (rdE_mk I6 e7 fun F7 H7 v7 I7 s7 r7 => ?_)
                    have hD7 : H7 Da = some (.lst vals) := I7.fx.hk _ _ nD hDa
                    have fD7 : F7 Da = none := Classical.byContradiction fun z => (I7.fx.new _ z).elim (fun z => z fDa) fun z => by rcases z with z | ⟨_, z⟩ <;> rw [hDa] at z <;> cases z
                    have hlen2 : acc.length < ds.length := by rw [← e4]; simp
                    refine ⟨vals, hD7, ?_, h3, F7, w7, acc ++ [yv], vals ++ [v7], ys, ?_, ?_, upd_same, fD7, ?_, by rw [h2]; exact e8, by rw [← e4]; simp⟩
                    · rw [← racc.length]
                      exact Nat.lt_of_lt_of_le hlen2 (few_line hfew)
                    · have fx7 := fx2.trans I7.fx I7.so.fst
                      refine ⟨fx7.fz, fun b o nb hb => ?_, fx7.new⟩
                      have nb' : b ≠ Da := fun z => by rw [z, hD] at hb; cases hb
                      rw [upd_ne nb']
                      exact fx7.hk b o nb hb
                    · refine ⟨fun b o hb => ?_, I7.so.fst, by rw [upd_ne nD.symm]; exact I7.so.hst⟩
                      have nb : b ≠ Da := fun z => by rw [z, fD7] at hb; cases hb
                      rw [upd_ne nb]
                      exact I7.so.sub b o hb
                    · exact (racc.mono I7.fx.fz).append (RelDs.one r7)
                  · cases e3
                · cases e3
              · rename_i env6 w6 e6
                refine rdT_mk I5 e6 fun F6 H6 I6 s6 => iteF ?_
                have hD6 : H6 Da = some (.lst vals) := I6.fx.hk _ _ nD hDa
                have fD6 : F6 Da = none := Classical.byContradiction fun z => (I6.fx.new _ z).elim (fun z => z fDa) fun z => by rcases z with z | ⟨_, z⟩ <;> rw [hDa] at z <;> cases z
                exact ⟨h3, F6, w6, acc, vals, rest, fx2.trans I6.fx I6.so.fst, I6.so, hD6, fD6, racc.mono I6.fx.fz, by rw [h2]; exact e3, e4⟩
              · cases e3
            · cases e3
      · cases ee
    · cases ee
  · cases ee
end Ev

namespace Ev
open PySem L2 PySem.Spec PyProof.Rows
variable {cA : Nat → Addr} {X : Cx} {a b c e : Expr} {ta tb tc te : TEv} {pos : Pos} {K : PySem.W.Frag}

/-! ### comprehensions as expressions -/
def evYes : TBv := fun env w => some (true, env, w)
theorem PTs.imp {ifs : List Expr} {t t' : TT} (h : PTs X ifs t) (i : ∀ σ H Q, t' σ H Q → t σ H Q) : PTs X ifs t' := ⟨fun p s σ H Q I q => h.run p s σ H Q I (i _ _ _ q)⟩
theorem pTs_nil : PTs X [] (rdT cA evYes) := PTs.imp pts_nil fun σ H Q ⟨ast, F0, H0, F, τ, env, w, d, env', w', I, e, k⟩ => by
  cases e
  exact k F H true I Sub.rfl' rfl
theorem pTs_one {t : TBv} (h : PT X c (rdT cA t)) : PTs X [c] (rdT cA t) := pts_one h
section
variable {elt tg iter : Expr} {ifs : List Expr} {scope : Scope} {own : List (Str × Nat)} {t : TLv} {g : Tgv} {tt : TBv}
theorem own_lt (ok : BlkOk X.N X.env.scope scope own) {σ : L2.St} (hl : σ.length = X.N.length) : ∀ v ∈ own.map (·.2), v < σ.length := fun v hv => by
  obtain ⟨p, hp, rfl⟩ := List.mem_map.mp hv
  rw [hl]
  exact (List.getElem?_eq_some_iff.mp (ok.ix p hp)).1
theorem pN_lc (hc : X.calm = true) (hN : X.N.Nodup) (hi : PI X tg iter (rdJ cA t)) (ok : BlkOk X.N X.env.scope scope own)
    (hg : ∀ (s : Shared) (H : Hp) (C : Addr) (cl : List (Str × Addr)) (fp : List Addr), PG (X.blk s H scope (compEnvC scope cl C X.env) fp) tg (rdTg cA (own.map (·.2)) g)) (ht : ∀ (s : Shared) (H : Hp) (C : Addr) (cl : List (Str × Addr)) (fp : List Addr), PTs (X.blk s H scope (compEnvC scope cl C X.env) fp) ifs (rdT cA tt))
    (he : ∀ (s : Shared) (H : Hp) (C : Addr) (cl : List (Str × Addr)) (fp : List Addr), PE (X.blk s H scope (compEnvC scope cl C X.env) fp) elt (rdE cA te)) (hs : ∀ x, foldedSetIterable iter X.env x = pure x := by intro _; rfl) :
    PE X (.ListComp elt [⟨tg, iter, ifs, 0⟩] scope pos) (rdN cA (evLc (own.map (·.2)) t g tt te)) :=
  ⟨fun p s σ H Q I q => (pe_lc hc hN hi ok hg ht he hs).run p s σ H Q I (rd_lc (own_lt ok I.len) q)⟩
theorem pS_setLc {i : Nat} {y : Str} {py spos : Pos} (hc : X.calm = true) (hN : X.N.Nodup) (hy : X.N[i]? = some y) (hyl : X.env.scope.names.lookup y = some .local)
    (hsw : swapsWith (.ListComp elt [⟨tg, iter, ifs, 0⟩] scope pos) (some (.Name y py)) spos.line X.env = pure true) (hi : PI X tg iter (rdJ cA t)) (ok : BlkOk X.N X.env.scope scope own)
    (hg : ∀ (s : Shared) (H : Hp) (C : Addr) (cl : List (Str × Addr)) (fp : List Addr), PG (X.blk s H scope (compEnvC scope cl C X.env) fp) tg (rdTg cA (own.map (·.2)) g)) (ht : ∀ (s : Shared) (H : Hp) (C : Addr) (cl : List (Str × Addr)) (fp : List Addr), PTs (X.blk s H scope (compEnvC scope cl C X.env) fp) ifs (rdT cA tt))
    (he : ∀ (s : Shared) (H : Hp) (C : Addr) (cl : List (Str × Addr)) (fp : List Addr), PE (X.blk s H scope (compEnvC scope cl C X.env) fp) elt (rdE cA te)) (hs : ∀ x, foldedSetIterable iter X.env x = pure x := by intro _; rfl) :
    PS X (.Assign [.Name y py] (.ListComp elt [⟨tg, iter, ifs, 0⟩] scope pos) spos) (rdS cA (stSetN i (evLc (own.map (·.2)) t g tt te))) :=
  ⟨fun p s σ H Dd I q => (ps_setLc hc hN hy hyl hsw hi ok hg ht he hs).run p s σ H Dd I (by
    obtain ⟨ast, F0, H0, F, env, w, fl, J, ee, k⟩ := q
    unfold stSetN at ee
    split at ee
    · rename_i d env1 w1 e1
      cases ee
      refine rd_lc (own_lt ok I.len) ⟨ast, F0, H0, F, [], env, w, d, env1, w1, sr0 J, e1, fun F1 H1 v1 I1 s1 => k F1 H1 _ ?_ s1⟩
      rw [List.append_nil] at I1
      exact I1.move
    · cases ee)⟩
end
theorem lc_lst {vs : List Nat} {t : TLv} {g : Tgv} {tt : TBv} {te : TEv} : ∀ env w d env' w', evLc vs t g tt te env w = some (d, env', w') → ∃ ds, d = .lst ds := fun env w d env' w' e => by
  unfold evLc at e
  split at e
  · split at e
    · split at e
      · cases e; exact ⟨_, rfl⟩
      · cases e
    · cases e
  · cases e
/-! ### one's own list is changed -/
theorem own_at {ast F0 H0 F} {ξ : L2.St} {H env w} (I : SR cA ast F0 H0 F ξ H env w) {i : Nat} {ds : List D} (h : env[i]? = some (.own (.lst ds))) :
    ∃ p vs, at_ ξ i = some (.ref p) ∧ F p = none ∧ H p = some (.lst vs) ∧ RelDs cA ast F ds vs := by
  obtain ⟨v, e1, ⟨p, vs, ev, fp, hp, r⟩, _⟩ := I.slots _ _ h
  exact ⟨p, vs, by rw [e1, ev], fp, hp, r⟩
/-- the slot's own list -/
def ownL (env : Env) (i : Nat) : Option (List D) := match ix env i with
  | some (.own (.lst ds)) => some ds
  | _ => none
theorem ownL_some {env : Env} {i : Nat} {ds : List D} (h : ownL env i = some ds) : env[i]? = some (.own (.lst ds)) := by
  unfold ownL at h
  rw [ix_eq] at h
  split at h
  · rename_i es e; cases h; exact e
  · cases h
def stApp (i : Nat) (t : TEv) : TSv := fun env w => match ownL env i with
  | some _ => match t env w with
    | some (d, env, w) => match ownL env i with
      | some ds => if few (ds.length + 1) then some (.nx (env.set i (.own (.lst (ds ++ [d])))) w) else none
      | none => none
    | none => none
  | none => none
theorem pS_app {i : Nat} {x : Str} {p1 apos p2 : Pos} (h : PE X (.Name x p1) (tVar i)) (hi : i < X.N.length) (he : PE X e (rdE cA te)) (hq : swapsWith (.Call (.Attribute (.Name x p1) "append" apos) [e] [] p2) none pos.line X.env = pure false := by rfl)
    (hbase : attributeBase (.Name x p1) "append" X.env (eval (.Name x p1) X.env) = eval (.Name x p1) X.env := by rfl)
    (hfew : ((backTo p2 (starEach [e] X.env)).all (fun x => !x.1) && (backToKw p2 (keywordEach [] X.env)).all (fun x => x.1.isSome)
      && decide ([e].length + ([] : List Keyword).length + (if ([] : List Keyword).isEmpty then 0 else 1) < 30)) = true := by rfl)
    (hline : (apos.endLine == p2.line) = true := by rfl) (hs : starEach [e] X.env = [(false, eval e X.env)] := by rfl) :
    PS X (.Expr (.Call (.Attribute (.Name x p1) "append" apos) [e] [] p2) pos) (rdS cA (stApp i te)) :=
  ⟨fun pins s σ H Dd I q => (ps_expr (pe_bm PySem.F.plainAttrs_list PySem.F.slot_list_append PySem.F.type_list_append mt_append h (pa_cons he pa_nil hs) hbase hfew hline hs) hq).run pins s σ H Dd I (by
    obtain ⟨ast, F0, H0, F, env, w, fl, J, ee, k⟩ := q
    unfold stApp at ee
    split at ee
    · rename_i ds0 e0
      obtain ⟨p0, vs0, a0, f0, h0, _⟩ := own_at J (ownL_some e0)
      split at ee
      · rename_i d env1 w1 e1
        split at ee
        · rename_i ds e2
          split at ee
          · rename_i hf
            cases ee
            refine ⟨.ref p0, at_some a0, .inl ⟨rfl, _, SqL.of h0⟩, rdE_mk (sr0 J) e1 fun F1 H1 v1 I1 s1 r1 => ?_⟩
            have I1 := sr1 I1
            obtain ⟨p, vs, a1, f1, h1, rs⟩ := own_at I1 (ownL_some e2)
            rw [a0] at a1
            cases a1
            refine ⟨p0, vs, v1, rfl, rfl, h1, ?_, k F1 _ _ (I1.write (ownL_some e2) a0 ⟨p0, _, rfl, f1, upd_same, rs.append (RelDs.one r1)⟩) s1⟩
            rw [← rs.length]
            exact Nat.lt_of_lt_of_le (Nat.lt_succ_self _) (few_line hf)
          · cases ee
        · cases ee
      · cases ee
    · cases ee)⟩
def stExt (i : Nat) (t : TEv) : TSv := fun env w => match ownL env i with
  | some _ => match t env w with
    | some (.lst es, env, w) => match ownL env i with
      | some ds => if few (ds.length + es.length) then some (.nx (env.set i (.own (.lst (ds ++ es)))) w) else none
      | none => none
    | _ => none
  | none => none
theorem pS_ext {i : Nat} {x : Str} {p1 apos p2 : Pos} (h : PE X (.Name x p1) (tVar i)) (hi : i < X.N.length) (he : PE X e (rdE cA te)) (hq : swapsWith (.Call (.Attribute (.Name x p1) "extend" apos) [e] [] p2) none pos.line X.env = pure false := by rfl)
    (hbase : attributeBase (.Name x p1) "extend" X.env (eval (.Name x p1) X.env) = eval (.Name x p1) X.env := by rfl)
    (hfew : ((backTo p2 (starEach [e] X.env)).all (fun x => !x.1) && (backToKw p2 (keywordEach [] X.env)).all (fun x => x.1.isSome)
      && decide ([e].length + ([] : List Keyword).length + (if ([] : List Keyword).isEmpty then 0 else 1) < 30)) = true := by rfl)
    (hline : (apos.endLine == p2.line) = true := by rfl) (hs : starEach [e] X.env = [(false, eval e X.env)] := by rfl) :
    PS X (.Expr (.Call (.Attribute (.Name x p1) "extend" apos) [e] [] p2) pos) (rdS cA (stExt i te)) :=
  ⟨fun pins s σ H Dd I q => (ps_expr (pe_bm PySem.F.plainAttrs_list PySem.F.slot_list_extend PySem.F.type_list_extend mt_extend h (pa_cons he pa_nil hs) hbase hfew hline hs) hq).run pins s σ H Dd I (by
    obtain ⟨ast, F0, H0, F, env, w, fl, J, ee, k⟩ := q
    unfold stExt at ee
    split at ee
    · rename_i ds0 e0
      obtain ⟨p0, vs0, a0, f0, h0, _⟩ := own_at J (ownL_some e0)
      split at ee
      · rename_i es env1 w1 e1
        split at ee
        · rename_i ds e2
          split at ee
          · rename_i hf
            cases ee
            refine ⟨.ref p0, at_some a0, .inl ⟨rfl, _, SqL.of h0⟩, rdE_mk (sr0 J) e1 fun F1 H1 v1 I1 s1 r1 => ?_⟩
            have I1 := sr1 I1
            obtain ⟨p, vs, a1, f1, h1, rs⟩ := own_at I1 (ownL_some e2)
            rw [a0] at a1
            cases a1
            obtain ⟨q, us, rfl, hqq, r2⟩ := r1
            refine ⟨p0, q, vs, us, rfl, rfl, h1, I1.so.sub _ _ hqq, ?_, k F1 _ _ (I1.write (ownL_some e2) a0 ⟨p0, _, rfl, f1, upd_same, rs.append r2⟩) s1⟩
            rw [← rs.length, ← r2.length]
            exact few_line hf
          · cases ee
        · cases ee
      · cases ee
    · cases ee)⟩
/-- x.pop() -/
def lastD : List D → Option D
  | [] => none
  | [d] => some d
  | _ :: ds => lastD ds
theorem lastD_get : ∀ {ds : List D} {d : D}, lastD ds = some d → ds[ds.length - 1]? = some d
  | [], _, h => by cases h
  | [x], d, h => by simpa [lastD] using h
  | x :: y :: ds, d, h => by
    have := lastD_get (ds := y :: ds) (by simpa [lastD] using h)
    simpa using this
def evPop (i : Nat) : TEv := fun env w => match ownL env i with
  | some ds => match lastD ds with
    | some d => some (d, env.set i (.own (.lst ds.dropLast)), w)
    | none => none
  | none => none
theorem RelDs.dropLast {ast : Addr} {F : Hp} {ds : List D} {vs : List V} (r : RelDs cA ast F ds vs) : RelDs cA ast F ds.dropLast vs.dropLast := by
  rw [List.dropLast_eq_take, List.dropLast_eq_take, r.length]
  exact r.take _
theorem pE_pop {i : Nat} {x : Str} {p1 apos p2 : Pos} (h : PE X (.Name x p1) (tVar i)) (hi : i < X.N.length)
    (hbase : attributeBase (.Name x p1) "pop" X.env (eval (.Name x p1) X.env) = eval (.Name x p1) X.env := by rfl) (hline : (apos.endLine == p2.line) = true := by rfl) :
    PE X (.Call (.Attribute (.Name x p1) "pop" apos) [] [] p2) (rdE cA (evPop i)) :=
  ⟨fun pins s σ H Q I q => (pe_bm0 PySem.F.plainAttrs_list PySem.F.slot_list_pop PySem.F.type_list_pop mt_pop h hbase hline).run pins s σ H Q I (by
    obtain ⟨ast, F0, H0, F, τ, env, w, d, env', w', J, ee, k⟩ := q
    unfold evPop at ee
    split at ee
    · rename_i ds e0
      obtain ⟨p0, vs, a0, f0, h0, rs⟩ := own_at J (ownL_some e0)
      split at ee
      · rename_i y e1
        cases ee
        obtain ⟨v, hv, rv⟩ := rs.get (lastD_get e1)
        refine ⟨.ref p0, at_left a0 (by rw [I.len]; exact hi), .inl ⟨rfl, _, SqL.of h0⟩, p0, vs, v, rfl, rfl, h0, by rw [← rs.length]; exact hv, ?_⟩
        exact k F _ v (J.write (ownL_some e0) a0 ⟨p0, _, rfl, f0, upd_same, rs.dropLast⟩) Sub.rfl' rv
      · cases ee
    · cases ee)⟩
/-- x[k] = e; the state's cells too -/
def ixSet (n : Nat) : Int → Option Nat
  | .ofNat k => if Nat.blt k n then some k else none
  | .negSucc k => if Nat.blt k n then some (n - (k + 1)) else none
theorem ixSet_eq {n : Nat} {k : Int} {j : Nat} (h : ixSet n k = some j) : ixN n k = some j := by
  unfold ixN
  cases k with
  | ofNat m =>
    simp only [ixSet] at h
    split at h
    · rename_i hm
      cases h
      have hm := Nat.blt_eq.mp hm
      have h0 : (0 : Int) ≤ Int.ofNat j := Int.natCast_nonneg j
      have h' : (Int.ofNat j) < (n : Int) := by show (j : Int) < _; omega
      rw [if_pos h0, if_pos h']; rfl
    · cases h
  | negSucc m =>
    simp only [ixSet] at h
    split at h
    · rename_i hm
      cases h
      have hm := Nat.blt_eq.mp hm
      have h0 : ¬ (0 : Int) ≤ Int.negSucc m := by omega
      have h' : -(n : Int) ≤ Int.negSucc m := by omega
      have e1 : (Int.negSucc m + (n : Int)).toNat = n - (m + 1) := by omega
      rw [if_neg h0, if_pos h', e1]
    · cases h
def stSetIx (i : Nat) (ti te : TEv) : TSv := fun env w => match te env w with
  | some (d, env, w) => match look env i with
    | some _ => match ti env w with
      | some (.int k, env, w) => match ix env i with
        | some (.own (.lst ds)) => match ixSet ds.length k with
          | some j => some (.nx (env.set i (.own (.lst (ds.set j d)))) w)
          | none => none
        | some (.fr .st) => match d with
          | .int z => match k with
            | .ofNat 0 => some (.nx env (z, w.2))
            | .ofNat 1 => some (.nx env (w.1, z))
            | _ => none
          | _ => none
        | _ => none
      | _ => none
    | none => none
  | none => none
theorem pS_setIx {i : Nat} {x : Str} {p1 p2 : Pos} {ti : TEv} (h : PE X (.Name x p1) (tVar i)) (hi : i < X.N.length) (hk : PE X b (rdE cA ti)) (he : PE X e (rdE cA te))
    (hs1 : swapsWithSole [.Subscript (.Name x p1) b p2] e pos.line X.env = pure false := by rfl) (hw : swappedStores [.Subscript (.Name x p1) b p2] e X.env = pure none := by rfl)
    (h1 : (assignEach [.Subscript (.Name x p1) b p2] X.env).map (·.2) = [assign (.Subscript (.Name x p1) b p2) X.env] := by rfl)
    (ha : ∀ v, assign (.Subscript (.Name x p1) b p2) X.env v = (do
      let ov ← holding [v] (eval (.Name x p1) X.env)
      let iv ← holding [v, ov] (eval b X.env)
      standAt p2
      holding [v, ov, iv] (setItem ov iv v)
      release [v, ov, iv] []) := by intro _; rfl) :
    PS X (.Assign [.Subscript (.Name x p1) b p2] e pos) (rdS cA (stSetIx i ti te)) :=
  ⟨fun pins s σ H Dd I q => (ps_asg he (pg_sub h hk set_list ha) hs1 hw h1).run pins s σ H Dd I (by
    obtain ⟨ast, F0, H0, F, env, w, fl, J, ee, k⟩ := q
    unfold stSetIx at ee
    split at ee
    · rename_i d env1 w1 e1
      split at ee
      · rename_i y0 e0
        split at ee
        · rename_i kk env2 w2 e2
          refine rdE_mk (sr0 J) e1 fun F1 H1 v1 I1 s1 r1 => ?_
          obtain ⟨s0, e01, e02⟩ := look_some e0
          obtain ⟨v0, hv0, _⟩ := (sr1 I1).see e01 e02
          refine ⟨v0, at_some hv0, rdE_mk I1 e2 fun F2 H2 v2 I2 s2 r2 => ?_⟩
          cases r2
          have I2 := sr1 I2
          rw [ix_eq] at ee
          split at ee
          · rename_i ds e3
            split at ee
            · rename_i j ej
              cases ee
              obtain ⟨p, vs, a1, f1, h1, rs⟩ := own_at I2 e3
              rw [hv0] at a1
              cases a1
              refine ⟨p, vs, kk, j, rfl, rfl, h1, by rw [← rs.length]; exact ixSet_eq ej, k F2 _ _ (I2.write e3 hv0 ⟨p, _, rfl, f1, upd_same, rs.set j (RelD.mono s2 _ _ r1)⟩) (s1.trans s2)⟩
            · cases ee
          · rename_i e3
            obtain ⟨u, eu, ru⟩ := I2.slots _ _ e3
            rw [hv0] at eu
            cases eu
            cases ru
            split at ee
            · rename_i z
              cases r1
              split at ee
              · cases ee
                exact ⟨ast, _, _, 0, rfl, rfl, I2.so.hst, rfl, k F2 _ _ (I2.wrSt (w' := (z, w2.2))) (s1.trans s2)⟩
              · cases ee
                exact ⟨ast, _, _, 1, rfl, rfl, I2.so.hst, rfl, k F2 _ _ (I2.wrSt (w' := (w2.1, z))) (s1.trans s2)⟩
              · cases ee
            · cases ee
          · cases ee
        · cases ee
      · cases ee
    · cases ee)⟩
/-! ### dicts -/
def keysOf : List D → Option (List Key)
  | [] => some []
  | .int i :: ds => match keysOf ds with
    | some ks => some (.inl i :: ks)
    | none => none
  | .str x :: ds => match keysOf ds with
    | some ks => some (.inr x :: ks)
    | none => none
  | _ :: _ => none
/-- a key: of which kind -/
def keyOf : D → Option (Bool × List Key)
  | .int i => some (false, [.inl i])
  | .str x => some (false, [.inr x])
  | .tup ds => match keysOf ds with
    | some ks => some (true, ks)
    | none => none
  | _ => none
theorem keysOf_vals {ast : Addr} {F : Hp} : ∀ {ds : List D} {ks : List Key} {vs : List V}, keysOf ds = some ks → RelDs cA ast F ds vs → vs = ks.map kV
  | [], ks, vs, e, r => by cases r; simp only [keysOf] at e; cases e; rfl
  | d :: ds, ks, vs, e, r => by
    obtain ⟨v, us, rfl, r1, r2⟩ := r
    cases d with
    | int i =>
      simp only [keysOf] at e
      split at e
      · rename_i js ej
        cases e
        rw [keysOf_vals ej r2]
        cases r1
        rfl
      · cases e
    | str x =>
      simp only [keysOf] at e
      split at e
      · rename_i js ej
        cases e
        rw [keysOf_vals ej r2]
        cases r1
        rfl
      · cases e
    | _ => simp [keysOf] at e
def hasK (k : List Key) : List (List Key) → Bool
  | [] => false
  | k' :: ks => if k' = k then true else hasK k ks
def repD (k : List Key) (d : D) : List (List Key) → List D → List D
  | k' :: ks, x :: vs => (if k' = k then d else x) :: repD k d ks vs
  | _, _ => []
def putD (k : List Key) (d : D) (ks : List (List Key)) (vs : List D) : List (List Key) × List D :=
  if hasK k ks then (ks, repD k d ks vs) else (ks ++ [k], vs ++ [d])
theorem hasK_eq {κ : Type} [DecidableEq κ] (f : κ → List Key) (hf : ∀ x y, f x = f y → x = y) (k : κ) : ∀ kvs : List (κ × V), hasK (f k) (kvs.map fun p => f p.1) = kvs.any fun kv => decide (kv.1 = k)
  | [] => rfl
  | p :: kvs => by
    rw [List.map_cons, List.any_cons]
    show (if f p.1 = f k then true else hasK (f k) (kvs.map fun p => f p.1)) = _
    by_cases h : p.1 = k
    · rw [if_pos (by rw [h]), decide_eq_true h, Bool.true_or]
    · rw [if_neg (fun z => h (hf _ _ z)), decide_eq_false h, Bool.false_or, hasK_eq f hf k kvs]
theorem repD_eq {κ : Type} [DecidableEq κ] (f : κ → List Key) (hf : ∀ x y, f x = f y → x = y) {ast : Addr} {F : Hp} {k : κ} {d : D} {v : V} (rv : RelD cA ast F d v) : ∀ {kvs : List (κ × V)} {ds : List D}, RelDs cA ast F ds (kvs.map (·.2)) →
    RelDs cA ast F (repD (f k) d (kvs.map fun p => f p.1) ds) ((kvs.map (fun kv => if kv.1 = k then (kv.1, v) else kv)).map (·.2))
  | [], ds, r => by
    cases ds with
    | nil => exact RelDs.nil
    | cons _ _ => obtain ⟨_, _, e, _⟩ := r; cases e
  | p :: kvs, ds, r => by
    cases ds with
    | nil => cases r
    | cons x ds =>
      obtain ⟨u, us, e, r1, r2⟩ := r
      simp only [List.map_cons, List.cons.injEq] at e
      obtain ⟨rfl, rfl⟩ := e
      have ih := repD_eq f hf (k := k) (v := v) rv (kvs := kvs) (ds := ds) r2
      rw [List.map_cons, List.map_cons, List.map_cons]
      show RelDs cA ast F ((if f p.1 = f k then d else x) :: repD (f k) d (kvs.map fun p => f p.1) ds) _
      by_cases h : p.1 = k
      · rw [if_pos (by rw [h]), if_pos h]
        exact RelDs.cons rv ih
      · rw [if_neg (fun z => h (hf _ _ z)), if_neg h]
        exact RelDs.cons r1 ih
theorem putK_fst {κ : Type} [DecidableEq κ] (f : κ → List Key) {k : κ} {v : V} (kvs : List (κ × V)) : (kvs.map (fun kv => if kv.1 = k then (kv.1, v) else kv)).map (fun p => f p.1) = kvs.map fun p => f p.1 := by
  rw [List.map_map]
  refine List.map_congr_left fun p _ => ?_
  show f (if p.1 = k then (p.1, v) else p).1 = f p.1
  split <;> rfl
theorem putD_eq {κ : Type} [DecidableEq κ] (f : κ → List Key) (hf : ∀ x y, f x = f y → x = y) {ast : Addr} {F : Hp} {k : κ} {d : D} {v : V} (rv : RelD cA ast F d v) {kvs : List (κ × V)} {ds : List D} (r : RelDs cA ast F ds (kvs.map (·.2))) :
    (putD (f k) d (kvs.map fun p => f p.1) ds).1 = (putK kvs k v).map (fun p => f p.1) ∧ RelDs cA ast F (putD (f k) d (kvs.map fun p => f p.1) ds).2 ((putK kvs k v).map (·.2)) := by
  unfold putD putK
  rw [hasK_eq f hf]
  by_cases h : (kvs.any fun kv => decide (kv.1 = k)) = true
  · rw [if_pos h, if_pos h]
    exact ⟨(putK_fst f kvs).symm, repD_eq f hf rv r⟩
  · rw [if_neg h, if_neg h]
    refine ⟨by simp, ?_⟩
    rw [List.map_append]
    exact r.append (RelDs.one rv)
/-- the slot's own dict -/
def ownD (env : Env) (i : Nat) : Option (Bool × List (List Key) × List D) := match ix env i with
  | some (.own (.dic t ks vs)) => some (t, ks, vs)
  | _ => none
theorem ownD_some {env : Env} {i : Nat} {t : Bool} {ks : List (List Key)} {vs : List D} (h : ownD env i = some (t, ks, vs)) : env[i]? = some (.own (.dic t ks vs)) := by
  unfold ownD at h
  rw [ix_eq] at h
  split at h
  · rename_i es e; cases h; exact ‹_›
  · cases h
def stDput (i : Nat) (tk te : TEv) : TSv := fun env w => match te env w with
  | some (d, env, w) => match ownD env i with
    | some _ => match tk env w with
      | some (kd, env, w) => match keyOf kd with
        | some (t, k) => match ownD env i with
          | some (t', ks, vs) => if (t == t') && few (ks.length + 1) then
              let r := putD k d ks vs
              some (.nx (env.set i (.own (.dic t' r.1 r.2))) w) else none
          | none => none
        | none => none
      | none => none
    | none => none
  | none => none
theorem pS_dput {i : Nat} {x : Str} {p1 p2 : Pos} {tk : TEv} (hu : X.A.units + 1 < cLine) (h : PE X (.Name x p1) (tVar i)) (hi : i < X.N.length) (hk : PE X b (rdE cA tk)) (he : PE X e (rdE cA te)) (hs : swapsWith e (some (.Subscript (.Name x p1) b p2)) pos.line X.env = pure false := by rfl) :
    PS X (.Assign [.Subscript (.Name x p1) b p2] e pos) (rdS cA (stDput i tk te)) :=
  ⟨fun pins s σ H Dd I q => (ps_dput hu h hk he hs).run pins s σ H Dd I (by
    obtain ⟨ast, F0, H0, F, env, w, fl, J, ee, k⟩ := q
    unfold stDput at ee
    split at ee
    · rename_i d env1 w1 e1
      split at ee
      · rename_i y0 e0
        split at ee
        · rename_i kd env2 w2 e2
          split at ee
          · rename_i t kk ek
            split at ee
            · rename_i t' ks vs e3
              split at ee
              · rename_i hc
                rw [Bool.and_eq_true] at hc
                obtain ⟨ht, hf⟩ := hc
                have ht : t = t' := by simpa using ht
                subst ht
                cases ee
                refine rdE_mk (sr0 J) e1 fun F1 H1 v1 I1 s1 r1 => ?_
                obtain ⟨t0, ks0, vs0⟩ := y0
                obtain ⟨v0, hv0, ⟨p0, rfl, _⟩, _⟩ := (sr1 I1).slots _ _ (ownD_some e0)
                refine ⟨.ref p0, at_some hv0, rdE_mk I1 e2 fun F2 H2 v2 I2 s2 r2 => ?_⟩
                have I2 := sr1 I2
                obtain ⟨v3, hv3, ⟨p, ep, fp, hd⟩, _⟩ := I2.slots _ _ (ownD_some e3)
                rw [hv0] at hv3
                cases hv3
                cases ep
                have r1' := RelD.mono s2 _ _ r1
                cases t with
                | false =>
                  obtain ⟨kvs, hp, rfl, rs⟩ := hd
                  have key : ∃ k0 : Key, v2 = kV k0 ∧ kk = [k0] := by
                    cases kd with
                    | int i => cases ek; cases r2; exact ⟨.inl i, rfl, rfl⟩
                    | str y => cases ek; cases r2; exact ⟨.inr y, rfl, rfl⟩
                    | tup ds => simp only [keyOf] at ek; split at ek <;> cases ek
                    | _ => cases ek
                  obtain ⟨k0, rfl, rfl⟩ := key
                  have hl : kvs.length < sizeLine := by rw [List.length_map] at hf; exact Nat.lt_of_lt_of_le (Nat.lt_succ_self _) (few_line hf)
                  obtain ⟨g1, g2⟩ := putD_eq (fun k : Key => [k]) (fun _ _ z => by simpa using z) (k := k0) r1' rs
                  refine ⟨p0, _, rfl, DPut.k hp hl, k F2 _ _ (I2.write (ownD_some e3) hv0 ⟨p0, rfl, fp, ?_⟩) (s1.trans s2)⟩
                  exact ⟨_, upd_same, g1, g2⟩
                | true =>
                  obtain ⟨kvs, hp, rfl, rs⟩ := hd
                  have key : ∃ p3, v2 = .ref p3 ∧ F2 p3 = some (.tup (kk.map kV)) := by
                    cases kd with
                    | tup ds =>
                      simp only [keyOf] at ek
                      split at ek
                      · rename_i js ej
                        cases ek
                        obtain ⟨p3, us, rfl, h3, r3⟩ := r2
                        rw [keysOf_vals ej r3] at h3
                        exact ⟨p3, rfl, h3⟩
                      · cases ek
                    | int _ => cases ek
                    | str _ => cases ek
                    | _ => cases ek
                  obtain ⟨p3, rfl, h3⟩ := key
                  have hl : kvs.length < sizeLine := by rw [List.length_map] at hf; exact Nat.lt_of_lt_of_le (Nat.lt_succ_self _) (few_line hf)
                  obtain ⟨g1, g2⟩ := putD_eq (fun k : List Key => k) (fun _ _ z => z) (k := kk) r1' rs
                  refine ⟨p0, _, rfl, DPut.t hp (I2.so.sub _ _ h3) hl, k F2 _ _ (I2.write (ownD_some e3) hv0 ⟨p0, rfl, fp, ?_⟩) (s1.trans s2)⟩
                  exact ⟨_, upd_same, g1, g2⟩
              · cases ee
            · cases ee
          · cases ee
        · cases ee
      · cases ee
    · cases ee)⟩
def evDic (t : Bool) : TEv := fun env w => some (.dic t [] [], env, w)
theorem pN_dicK : PE X (.Dict [] [] pos) (rdN cA (evDic false)) := PE.imp pe_dnewK fun σ H Q ⟨ast, F0, H0, F, τ, env, w, d, env', w', I, ee, k⟩ p hp => by
  cases ee
  exact k F _ _ (I.push hp ⟨p, rfl, I.so.sub.none hp, [], upd_same, rfl, RelDs.nil⟩) Sub.rfl'
theorem pN_dicT : PE X (.Dict [] [] pos) (rdN cA (evDic true)) := PE.imp pe_dnewT fun σ H Q ⟨ast, F0, H0, F, τ, env, w, d, env', w', I, ee, k⟩ p hp => by
  cases ee
  exact k F _ _ (I.push hp ⟨p, rfl, I.so.sub.none hp, [], upd_same, rfl, RelDs.nil⟩) Sub.rfl'
/-! ### an instance being made -/
/-- self.f = e: the j-th field of class c -/
def stFld (c j : Nat) (te : TEv) : TSv := fun env w => match te env w with
  | some (d, env, w) => match ix env 0 with
    | some (.own (.ins c' ds)) => if Nat.beq c' c && Nat.beq ds.length j then some (.nx (env.set 0 (.own (.ins c' (ds ++ [d])))) w) else none
    | _ => none
  | none => none
theorem putF_zip {f : Str} {y : V} : ∀ {ns : List Str} {vs : List V}, ns[vs.length]? = some f → (∀ i, i < vs.length → ns[i]? ≠ some f) → putF f y (ns.zip vs) = ns.zip (vs ++ [y])
  | [], vs, h, _ => by simp at h
  | n :: ns, [], h, _ => by
    simp at h
    subst h
    cases ns <;> rfl
  | n :: ns, v :: vs, h, hp => by
    have hn : ¬ n = f := fun e => hp 0 (Nat.succ_pos _) (by simp [e])
    rw [List.zip_cons_cons]
    show (if n = f then _ else (n, v) :: putF f y (ns.zip vs)) = _
    rw [if_neg hn, putF_zip (by simpa using h) fun i hi => by have := hp (i + 1) (by simp; omega); simpa using this]
    rfl
theorem pS_fld {cl j : Nat} {f : Str} {x : Str} {p1 p2 : Pos} (ok : FldOk X.K cA cl j f) (h : PE X (.Name x p1) (tVar 0)) (he : PE X e (rdE cA te)) (hs : swapsWith e (some (.Attribute (.Name x p1) f p2)) pos.line X.env = pure false := by rfl) :
    PS X (.Assign [.Attribute (.Name x p1) f p2] e pos) (rdS cA (stFld cl j te)) :=
  ⟨fun pins s σ H Dd I q => (ps_fld h he hs).run pins s σ H Dd I (by
    obtain ⟨ast, F0, H0, F, env, w, fl, J, ee, k⟩ := q
    unfold stFld at ee
    split at ee
    · rename_i d env1 w1 e1
      rw [ix_eq] at ee
      split at ee
      · rename_i c' ds e2
        split at ee
        · rename_i hc
          rw [Bool.and_eq_true] at hc
          have h1 : c' = cl := Nat.eq_of_beq_eq_true hc.1
          have h2 : ds.length = j := Nat.eq_of_beq_eq_true hc.2
          subst h1
          cases ee
          refine rdE_mk (sr0 J) e1 fun F1 H1 v1 I1 s1 r1 => ?_
          have I1 := sr1 I1
          obtain ⟨v, hv, ⟨p, dx, vs, rfl, fp, hp, hl, rs⟩, _, _⟩ := I1.slots _ _ e2
          have hlen : vs.length = j := by rw [← rs.length]; exact h2
          have hat : (fN c')[vs.length]? = some f := by rw [hlen]; exact ok.at_
          have hlt : vs.length < (fN c').length := (List.getElem?_eq_some_iff.mp hat).1
          have hpre : ∀ i, i < vs.length → (fN c')[i]? ≠ some f := fun i hi => ok.pre i (by rw [← hlen]; exact hi)
          have few5 : (fN c').length ≤ 5 := by
            unfold fN
            split <;> decide
          refine ⟨.ref p, at_some hv, p, cA c', dx, _, rfl, hp, ok.cl, ok.no, ?_, k F1 _ _ (I1.write e2 hv ⟨p, dx, vs ++ [v1], rfl, fp, ?_, ?_, rs.append (RelDs.one r1)⟩) s1⟩
          · rw [List.length_zip]; omega
          · rw [upd_same, putF_zip hat hpre]
          · rw [List.length_append, List.length_singleton]; omega
        · cases ee
      · cases ee
    · cases ee)⟩
/-! ### try, where nothing is raised -/
theorem pS_try {body : List Stmt} {h₀ : ExceptHandler} {hds : List ExceptHandler} {t : TSv} (hn : ∀ e s, ¬ X.xe e s) (hb : PSs X body (rdS cA t)) : PS X (.Try body (h₀ :: hds) [] [] pos) (rdS cA t) :=
  PS.imp (ps_try_never hn hb pss_nil) fun Dd σ H q => q
end Ev

namespace Ev
open PySem L2
variable {cA : Nat → Addr} {X : Cx} {a b c e : Expr} {ta tb tc te : TEv} {pos : Pos} {K : PySem.W.Frag}

/-! ### a, b = x, y: the values stand above the slots first -/
abbrev TPv := Env → W → Option (Env × W)
def rdP (cA : Nat → Addr) (n : Nat) (t : TPv) : TA := fun σ H Q => ∃ ast F0 H0 F τ env w env' w', SR cA ast F0 H0 F (σ ++ τ) H env w ∧ t env w = some (env', w') ∧
  ∀ F' H' vs, vs.length = n → SR cA ast F0 H0 F' (σ ++ τ ++ vs.map some) H' env' w' → Sub F F' → Q vs H'
def parNil : TPv := fun env w => some (env, w)
def parE (t : TEv) (r : TPv) : TPv := fun env w => match t env w with
  | some (d, env, w) => r (env ++ [.fr d]) w
  | none => none
def parN (t : TEv) (r : TPv) : TPv := fun env w => match t env w with
  | some (d, env, w) => r (env ++ [.own d]) w
  | none => none
theorem pP_nil : PA X [] (rdP cA 0 parNil) := PA.imp pa_nil fun σ H Q ⟨ast, F0, H0, F, τ, env, w, env', w', I, e, k⟩ => by
  cases e
  exact k F H [] rfl (by simpa using I) Sub.rfl'
theorem SR.top {ast F0 H0 F ξ H env w} (I : SR cA ast F0 H0 F ξ H env w) {d : D} {v : V} (r : RelD cA ast F d v) : SR cA ast F0 H0 F (ξ ++ [some v]) H (env ++ [.fr d]) w := by
  have hl := I.len
  refine I.re (by simp [hl]) id (fun j s e => ?_) fun i j _ _ _ _ e => e
  by_cases hj : j < env.length
  · rw [List.getElem?_append_left hj] at e
    refine .inr (.inl ⟨e, ?_⟩)
    unfold at_
    simp only [id]
    rw [List.getElem?_append_left (by omega)]
  · have h2 : j < (env ++ [SV.fr d]).length := (List.getElem?_eq_some_iff.mp e).1
    have hj' : j = env.length := by simp at h2; omega
    subst hj'
    simp at e
    refine .inr (.inr ⟨d, v, e.symm, ?_, r⟩)
    unfold at_
    rw [hl]
    simp
theorem pP_E {n : Nat} {es : List Expr} {r : TPv} (ha : PE X e (rdE cA te)) (hr : PA X es (rdP cA n r)) (hs : starEach (e :: es) X.env = (false, eval e X.env) :: starEach es X.env := by rfl) : PA X (e :: es) (rdP cA (n + 1) (parE te r)) :=
  PA.imp (pa_cons ha hr hs) fun σ H Q ⟨ast, F0, H0, F, τ, env, w, env', w', I, ee, k⟩ => by
    unfold parE at ee
    split at ee
    · rename_i d env1 w1 e1
      refine rdE_mk I e1 fun F1 H1 v1 I1 s1 r1 => ?_
      refine ⟨ast, F0, H0, F1, τ ++ [some v1], env1 ++ [.fr d], w1, env', w', ?_, ee, fun F' H' vs hv J s2 => k F' H' (v1 :: vs) (by simp [hv]) ?_ (s1.trans s2)⟩
      · rw [← List.append_assoc]; exact I1.top r1
      · have e2 : σ ++ τ ++ List.map some (v1 :: vs) = σ ++ (τ ++ [some v1]) ++ List.map some vs := by simp
        rw [e2]; exact J
    · cases ee
theorem pP_N {n : Nat} {es : List Expr} {r : TPv} (ha : PE X e (rdN cA te)) (hr : PA X es (rdP cA n r)) (hs : starEach (e :: es) X.env = (false, eval e X.env) :: starEach es X.env := by rfl) : PA X (e :: es) (rdP cA (n + 1) (parN te r)) :=
  PA.imp (pa_cons ha hr hs) fun σ H Q ⟨ast, F0, H0, F, τ, env, w, env', w', I, ee, k⟩ => by
    unfold parN at ee
    split at ee
    · rename_i d env1 w1 e1
      refine ⟨ast, F0, H0, F, τ, env, w, d, env1, w1, I, e1, fun F1 H1 v1 I1 s1 => ?_⟩
      refine ⟨ast, F0, H0, F1, τ ++ [some v1], env1 ++ [.own d], w1, env', w', ?_, ee, fun F' H' vs hv J s2 => k F' H' (v1 :: vs) (by simp [hv]) ?_ (s1.trans s2)⟩
      · rw [← List.append_assoc]; exact I1
      · have e2 : σ ++ τ ++ List.map some (v1 :: vs) = σ ++ (τ ++ [some v1]) ++ List.map some vs := by simp
        rw [e2]; exact J
    · cases ee
/-- the top value goes to slot i -/
theorem SR.move' {ast F0 H0 F σ H env w} {i : Nat} {s : SV} {x : Option V} (I : SR cA ast F0 H0 F (σ ++ [x]) H (env ++ [s]) w) : SR cA ast F0 H0 F (σ.set i x) H (env.set i s) w := by
  have hlen : env.length = σ.length := by have := I.len; simpa using this
  refine I.re (by simp [hlen]) (fun j => if j = i then env.length else j) (fun j s' e => ?_) fun a b _ _ ha hb e => ?_
  · have hj' : j < env.length := by
      have := (List.getElem?_eq_some_iff.mp e).1
      simpa using this
    by_cases hj : j = i
    · subst hj
      rw [List.getElem?_set_self hj'] at e
      cases e
      refine .inr (.inl ⟨by simp, ?_⟩)
      simp only [if_true]
      unfold at_
      rw [List.getElem?_set_self (by omega), hlen]
      simp
    · rw [List.getElem?_set_ne (Ne.symm hj)] at e
      refine .inr (.inl ⟨?_, ?_⟩)
      · simp only [hj, if_false]
        rw [List.getElem?_append_left hj']; exact e
      · simp only [hj, if_false]
        unfold at_
        rw [List.getElem?_set_ne (Ne.symm hj), List.getElem?_append_left (by omega)]
  · have hla : a < env.length := by have := (List.getElem?_eq_some_iff.mp ha).1; simpa using this
    have hlb : b < env.length := by have := (List.getElem?_eq_some_iff.mp hb).1; simpa using this
    (try simp only at e)
    split at e <;> split at e <;> omega
/-- the topmost slot and what stands below it -/
def unTop : Env → Option (Env × SV)
  | [] => none
  | [s] => some ([], s)
  | s :: r => match unTop r with
    | some (b, t) => some (s :: b, t)
    | none => none
theorem unTop_eq : ∀ {env b : Env} {t : SV}, unTop env = some (b, t) → env = b ++ [t]
  | [], _, _, h => by cases h
  | [s], _, _, h => by simp only [unTop] at h; cases h; rfl
  | s :: x :: r, b, t, h => by
    simp only [unTop] at h
    split at h
    · rename_i b' t' e
      cases h
      rw [unTop_eq e]
      rfl
    · cases h
def stPar (i j : Nat) (r : TPv) : TSv := fun env w => match r env w with
  | some (env, w) => match unTop env with
    | some (env, y) => match unTop env with
      | some (env, x) => some (.nx ((env.set i x).set j y) w)
      | none => none
    | none => none
  | none => none
theorem comm_set {α : Type} {i j : Nat} (h : i ≠ j) (l : List α) (x y : α) : (l.set j y).set i x = (l.set i x).set j y := List.set_comm _ _ (Ne.symm h)
theorem SR.pull {ast F0 H0 F σ H env w} {j : Nat} {s t : SV} {x y : Option V} (hj : j < σ.length) (I : SR cA ast F0 H0 F (σ ++ [x] ++ [y]) H (env ++ [s] ++ [t]) w) : SR cA ast F0 H0 F (σ.set j y ++ [x]) H (env.set j t ++ [s]) w := by
  have hlen : env.length = σ.length := by have := I.len; simpa using this
  have J := I.move' (i := j)
  rw [List.set_append_left _ _ hj, List.set_append_left _ _ (by omega)] at J
  exact J
theorem pS_par {i j : Nat} {x y : Str} {px py pt : Pos} {kt k2 pt2} {r : TPv} (hc : X.calm = true) (hN : X.N.Nodup) (hi : X.N[i]? = some x) (hj : X.N[j]? = some y) (hij : i ≠ j)
    (hx : X.env.scope.names.lookup x = some .local) (hy : X.env.scope.names.lookup y = some .local) (ha : PA X [a, b] (rdP cA 2 r))
    (hw : swappedStores [.Tuple [.Name x px, .Name y py] kt pt] (.Tuple [a, b] k2 pt2) X.env = pure (some [x, y]))
    (hs : swapsWithSole [.Tuple [.Name x px, .Name y py] kt pt] (.Tuple [a, b] k2 pt2) pos.line X.env = pure false := by rfl) :
    PS X (.Assign [.Tuple [.Name x px, .Name y py] kt pt] (.Tuple [a, b] k2 pt2) pos) (rdS cA (stPar i j r)) :=
  ⟨fun pins s σ H D I q => (ps_par hc hN hi hj hij hx hy ha hw hs).run pins s σ H D I (by
    have hjl : j < σ.length := by rw [I.len]; exact (List.getElem?_eq_some_iff.mp hj).1
    obtain ⟨ast, F0, H0, F, env, w, fl, J, ee, k⟩ := q
    unfold stPar at ee
    split at ee
    · rename_i env1 w1 e1
      split at ee
      · rename_i env2 sy e2
        split at ee
        · rename_i env3 sx e3
          cases ee
          have E2 := unTop_eq e2
          have E3 := unTop_eq e3
          subst E3
          subst E2
          refine ⟨ast, F0, H0, F, [], env, w, _, w1, sr0 J, e1, fun F' H' vs hv J2 s2 => ?_⟩
          match vs, hv with
          | [u, v], _ =>
            refine ⟨u, v, rfl, ?_⟩
            have J3 : SR cA ast F0 H0 F' (σ ++ [some u] ++ [some v]) H' (env3 ++ [sx] ++ [sy]) w1 := by simpa using J2
            have J4 := (J3.pull hjl).move' (i := i)
            rw [comm_set hij, comm_set hij] at J4
            exact k F' H' _ J4 s2
        · cases ee
      · cases ee
    · cases ee)⟩
def stPar3 (i j l : Nat) (r : TPv) : TSv := fun env w => match r env w with
  | some (env, w) => match unTop env with
    | some (env, z) => match unTop env with
      | some (env, y) => match unTop env with
        | some (env, x) => some (.nx (((env.set i x).set j y).set l z) w)
        | none => none
      | none => none
    | none => none
  | none => none
theorem pS_par3 {i j l : Nat} {x y z : Str} {px py pz pt : Pos} {kt k2 pt2} {r : TPv} (hc : X.calm = true) (hN : X.N.Nodup) (hi : X.N[i]? = some x) (hj : X.N[j]? = some y) (hl : X.N[l]? = some z) (hij : i ≠ j) (hil : i ≠ l) (hjl : j ≠ l)
    (hx : X.env.scope.names.lookup x = some .local) (hy : X.env.scope.names.lookup y = some .local) (hz : X.env.scope.names.lookup z = some .local) (ha : PA X [a, b, c] (rdP cA 3 r))
    (hw : swappedStores [.Tuple [.Name x px, .Name y py, .Name z pz] kt pt] (.Tuple [a, b, c] k2 pt2) X.env = pure (some [x, y, z]))
    (hs : swapsWithSole [.Tuple [.Name x px, .Name y py, .Name z pz] kt pt] (.Tuple [a, b, c] k2 pt2) pos.line X.env = pure false := by rfl) :
    PS X (.Assign [.Tuple [.Name x px, .Name y py, .Name z pz] kt pt] (.Tuple [a, b, c] k2 pt2) pos) (rdS cA (stPar3 i j l r)) :=
  ⟨fun pins s σ H D I q => (ps_par3 hc hN hi hj hl hij hil hjl hx hy hz ha hw hs).run pins s σ H D I (by
    have h1 : j < σ.length := by rw [I.len]; exact (List.getElem?_eq_some_iff.mp hj).1
    have h2 : l < σ.length := by rw [I.len]; exact (List.getElem?_eq_some_iff.mp hl).1
    obtain ⟨ast, F0, H0, F, env, w, fl, J, ee, k⟩ := q
    unfold stPar3 at ee
    split at ee
    · rename_i env1 w1 e1
      split at ee
      · rename_i env2 sz e2
        split at ee
        · rename_i env3 sy e3
          split at ee
          · rename_i env4 sx e4
            cases ee
            have E2 := unTop_eq e2
            have E3 := unTop_eq e3
            have E4 := unTop_eq e4
            subst E4
            subst E3
            subst E2
            refine ⟨ast, F0, H0, F, [], env, w, _, w1, sr0 J, e1, fun F' H' vs hv J2 s2 => ?_⟩
            match vs, hv with
            | [u, v, t], _ =>
              refine ⟨u, v, t, rfl, ?_⟩
              have J3 : SR cA ast F0 H0 F' (σ ++ [some u] ++ [some v] ++ [some t]) H' (env4 ++ [sx] ++ [sy] ++ [sz]) w1 := by simpa using J2
              have J4 := J3.pull (j := l) (by simp; omega)
              rw [List.set_append_left _ _ h2, List.set_append_left _ _ (by have := J3.len; simp at this; omega)] at J4
              have J5 := (J4.pull (j := j) (by simpa using h1)).move' (i := i)
              rw [comm_set hjl, comm_set hjl, comm_set hil, comm_set hil, comm_set hij, comm_set hij] at J5
              exact k F' H' _ J5 s2
          · cases ee
        · cases ee
      · cases ee
    · cases ee)⟩

/-! ### isinstance: types by number: 0 None, 1 bool, 2 int, 3 str, 4 tuple, 5 list, 6 dict, 10 + c a class of the text -/
def tyN : D → Nat
  | .non => 0
  | .bl _ => 1
  | .int _ => 2
  | .str _ => 3
  | .tup _ => 4
  | .lst _ => 5
  | .dic _ _ _ => 6
  | .ins c _ => c + 10
  | .st => 5
def tyV (cA : Nat → Addr) : Nat → Value
  | 0 => .type "NoneType"
  | 1 => .type "bool"
  | 2 => .type "int"
  | 3 => .type "str"
  | 4 => .type "tuple"
  | 5 => .type "list"
  | 6 => .type "dict"
  | n => .ref (cA (n - 10))
/-- the answer, where it is asked -/
def isiN : Nat → Nat → Option Bool
  | 0, 1 => some false
  | 1, 1 => some true
  | 2, 1 => some false
  | 3, 1 => some false
  | 4, 1 => some false
  | 5, 1 => some false
  | 0, 2 => some false
  | 1, 2 => some true
  | 2, 2 => some true
  | 3, 2 => some false
  | 4, 2 => some false
  | 5, 2 => some false
  | 0, 4 => some false
  | 1, 4 => some false
  | 2, 4 => some false
  | 3, 4 => some false
  | 4, 4 => some true
  | 5, 4 => some false
  | 4, 5 => some false
  | 5, 5 => some true
  | 0, 10 => some false
  | 2, 10 => some false
  | 3, 10 => some false
  | 4, 10 => some false
  | 10, 10 => some true
  | 0, 11 => some false
  | 2, 11 => some false
  | 3, 11 => some false
  | 4, 11 => some false
  | 11, 11 => some true
  | 0, 12 => some false
  | 2, 12 => some false
  | 3, 12 => some false
  | 4, 12 => some false
  | 12, 12 => some true
  | _, _ => none
/-- what the classes of the text must have, for isinstance -/
structure TyOk (K : PySem.W.Frag) (C : Addr) : Prop where
  cl : Cls K C
  ha : PySem.W.findIn K (.ref C) "__class__" = some (some (.builtin "object.__class__"))
  hn : PySem.W.specialIn K (.builtin "object.__class__") "__get__" = some (some (.builtin "getset_descriptor.__get__"))
  htk : PySem.W.takesIn K (.builtin "object.__class__") = some true
  hm : PySem.W.mroIn K C (.type "object") = some true
  h0 : PySem.W.kitOne K (.type "NoneType") (.ref C) = some false
  h2 : PySem.W.kitOne K (.type "int") (.ref C) = some false
  h3 : PySem.W.kitOne K (.type "str") (.ref C) = some false
  h4 : PySem.W.kitOne K (.type "tuple") (.ref C) = some false
  hs : PySem.W.kitOne K (.ref C) (.ref C) = some true
structure TysOk (K : PySem.W.Frag) (cA : Nat → Addr) : Prop where
  t0 : TyOk K (cA 0)
  t1 : TyOk K (cA 1)
  t2 : TyOk K (cA 2)
theorem isi_kit (ok : TysOk K cA) {t c : Nat} {b : Bool} (h : isiN t c = some b) : PySem.W.kitOne K (tyV cA t) (tyV cA c) = some b := by
  unfold isiN at h
  split at h <;> first | (cases h; done) | (cases h; first | exact kit_ty (by decide +kernel) | exact ok.t0.h0 | exact ok.t0.h2 | exact ok.t0.h3 | exact ok.t0.h4 | exact ok.t0.hs | exact ok.t1.h0 | exact ok.t1.h2 | exact ok.t1.h3 | exact ok.t1.h4 | exact ok.t1.hs | exact ok.t2.h0 | exact ok.t2.h2 | exact ok.t2.h3 | exact ok.t2.h4 | exact ok.t2.hs)
theorem isi_dom {t c : Nat} {b : Bool} (h : isiN t c = some b) : t < 6 ∨ t = 10 ∨ t = 11 ∨ t = 12 := by
  unfold isiN at h
  split at h <;> first | (cases h; done) | omega
theorem tyX_of (ok : TysOk K cA) {ast F H} (hs : ∃ z, H ast = some (.lst z)) (sub : Sub F H) {d : D} {v : V} (r : RelB cA ast F H d v) (hd : tyN d < 6 ∨ tyN d = 10 ∨ tyN d = 11 ∨ tyN d = 12) : TyX K H v (tyV cA (tyN d)) := by
  refine .base ?_
  cases d with
  | non => cases r; exact .non
  | bl _ => cases r; exact .bl _
  | int _ => cases r; exact .int _
  | str _ => cases r; exact .str _
  | tup ds => obtain ⟨a, vs, rfl, h, _⟩ := r; exact .tup (sub _ _ h)
  | lst ds => obtain ⟨a, vs, rfl, h, _⟩ := r; exact .lst h
  | ins c ds =>
    obtain ⟨a, dx, vs, rfl, h, _⟩ := r
    have hc : c = 0 ∨ c = 1 ∨ c = 2 := by simp only [tyN] at hd; omega
    rcases hc with rfl | rfl | rfl
    · exact .ins h ok.t0.cl ok.t0.ha ok.t0.hn ok.t0.htk ok.t0.hm
    · exact .ins h ok.t1.cl ok.t1.ha ok.t1.hn ok.t1.htk ok.t1.hm
    · exact .ins h ok.t2.cl ok.t2.ha ok.t2.hn ok.t2.htk ok.t2.hm
  | dic t ks ds => exfalso; simp only [tyN] at hd; omega
  | st => cases r; obtain ⟨z, h⟩ := hs; exact .lst h
def fIsi (c : Nat) (d : D) : Option D := match isiN (tyN d) c with
  | some b => some (.bl b)
  | none => none
theorem fIsi_some {c : Nat} {d r : D} (h : fIsi c d = some r) : ∃ b, r = .bl b ∧ isiN (tyN d) c = some b := by
  unfold fIsi at h
  split at h
  · rename_i b e; cases h; exact ⟨b, rfl, e⟩
  · cases h
theorem pE_isi {c : Nat} {p p2 : Pos} {cn : Str} {cv : V} (ok : TysOk X.K cA) (hC : PE X (.Name cn p2) (tC cv)) (hcv : ClsV cv (tyV cA c)) (hg : Gl X "isinstance") (hm : X.mg "isinstance" = none) (he : PE X e (rdB cA te))
    (hs : starEach [e, .Name cn p2] X.env = [(false, eval e X.env), (false, eval (.Name cn p2) X.env)] := by rfl) :
    PE X (.Call (.Name "isinstance" p) [e, .Name cn p2] [] pos) (rdE cA (evUn (fIsi c) te)) :=
  PE.imp (pe_callB call_isi hg hm (by first | exact PySem.boot_isinstance | rfl) (pa_cons he (pa_cons hC pa_nil (by rfl)) hs) (by decide) (by decide) (by rw [hs]; rfl)) fun σ H Q ⟨ast, F0, H0, F, τ, env, w, d, env', w', I, ee, k⟩ => by
    obtain ⟨y, e1, e2⟩ := evUn_some ee
    obtain ⟨b, rfl, e3⟩ := fIsi_some e2
    exact rdB_mk I e1 fun F1 H1 v1 I1 s1 r1 => ⟨v1, cv, _, _, b, rfl, hcv, tyX_of ok ⟨_, I1.so.hst⟩ I1.so.sub r1 (isi_dom e3), isi_kit ok e3, k F1 H1 _ I1 s1 rfl⟩
/-- isinstance(x, (list, tuple)) -/
def fIsiLT : D → Option D
  | .lst _ => some (.bl true)
  | .tup _ => some (.bl true)
  | .non => some (.bl false)
  | .int _ => some (.bl false)
  | _ => none
theorem pE_isiLT {p p2 p3 p4 : Pos} {x4} (ok : TysOk X.K cA) (hg : Gl X "isinstance") (hm : X.mg "isinstance" = none) (h1 : PE X (.Name "list" p2) (tC (.ty "list"))) (h2 : PE X (.Name "tuple" p3) (tC (.ty "tuple"))) (he : PE X e (rdB cA te))
    (hs : starEach [e, .Tuple [.Name "list" p2, .Name "tuple" p3] x4 p4] X.env = [(false, eval e X.env), (false, eval (.Tuple [.Name "list" p2, .Name "tuple" p3] x4 p4) X.env)] := by rfl) :
    PE X (.Call (.Name "isinstance" p) [e, .Tuple [.Name "list" p2, .Name "tuple" p3] x4 p4] [] pos) (rdE cA (evUn fIsiLT te)) :=
  PE.imp (pe_callB call_isiT hg hm (by first | exact PySem.boot_isinstance | rfl) (pa_cons he (pa_cons (pe_tup (pa_cons h1 (pa_cons h2 pa_nil))) pa_nil (by rfl)) hs) (by decide) (by decide) (by rw [hs]; rfl)) fun σ H Q ⟨ast, F0, H0, F, τ, env, w, d, env', w', I, ee, k⟩ => by
    obtain ⟨y, e1, e2⟩ := evUn_some ee
    refine rdB_mk I e1 fun F1 H1 v1 I1 s1 r1 => ⟨by show 2 ≤ _; decide, fun p hp => ?_⟩
    have sb := Sub.upd (F := F1) (p := p) (o := HO.tup [V.ty "list", V.ty "tuple"]) (I1.so.sub.none hp)
    have I2 := I1.alloc (o := .tup [V.ty "list", V.ty "tuple"]) hp
    have keep : ∀ o, H1 p = some o → False := fun o h => by rw [hp] at h; cases h
    have r2 : RelB cA ast (upd F1 p (.tup [V.ty "list", V.ty "tuple"])) (upd H1 p (.tup [V.ty "list", V.ty "tuple"])) y v1 := by
      cases y with
      | lst ds => obtain ⟨a, vs, rfl, h, rs⟩ := r1; exact ⟨a, vs, rfl, Sub.upd hp _ _ h, rs.mono sb⟩
      | ins c ds => obtain ⟨a, dx, vs, rfl, h, rs⟩ := r1; exact ⟨a, dx, vs, rfl, Sub.upd hp _ _ h, rs.mono sb⟩
      | dic t ks ds => cases e2
      | tup ds => exact RelD.mono sb _ _ r1
      | _ => exact r1
    have pr : Paired ClsV [V.ty "list", V.ty "tuple"] [Value.type "list", Value.type "tuple"] := .cons (.ty _) (.cons (.ty _) .nil)
    have dom : tyN y < 6 ∨ tyN y = 10 ∨ tyN y = 11 ∨ tyN y = 12 := by
      cases y <;> first | (cases e2; done) | (left; simp only [tyN]; decide)
    have ty := tyX_of ok ⟨_, I2.so.hst⟩ I2.so.sub r2 dom
    cases y with
    | lst ds => cases e2; exact ⟨v1, p, _, _, _, true, rfl, upd_same, pr, ty, kitAny_cons (b := true) (kit_ty (by decide +kernel)) (fun z => by cases z) (fun _ => rfl), k _ _ _ I2 (s1.trans sb) rfl⟩
    | tup ds => cases e2; exact ⟨v1, p, _, _, _, true, rfl, upd_same, pr, ty, kitAny_cons (b := false) (kit_ty (by decide +kernel)) (fun _ => kitAny_cons (b := true) (kit_ty (by decide +kernel)) (fun z => by cases z) (fun _ => rfl)) (fun z => by cases z), k _ _ _ I2 (s1.trans sb) rfl⟩
    | non => cases e2; exact ⟨v1, p, _, _, _, false, rfl, upd_same, pr, ty, kitAny_cons (b := false) (kit_ty (by decide +kernel)) (fun _ => kitAny_cons (b := false) (kit_ty (by decide +kernel)) (fun _ => kitAny_nil) (fun z => by cases z)) (fun z => by cases z), k _ _ _ I2 (s1.trans sb) rfl⟩
    | int i => cases e2; exact ⟨v1, p, _, _, _, false, rfl, upd_same, pr, ty, kitAny_cons (b := false) (kit_ty (by decide +kernel)) (fun _ => kitAny_cons (b := false) (kit_ty (by decide +kernel)) (fun _ => kitAny_nil) (fun z => by cases z)) (fun z => by cases z), k _ _ _ I2 (s1.trans sb) rfl⟩
    | _ => cases e2
end Ev

namespace Ev
open PySem L2 PySem.Spec PyProof.Rows
variable {cA : Nat → Addr} {pos : Pos} {K : PySem.W.Frag} {P : Program} {w : World} {mg : Str → Option Value} {base : Heap}

/-! ### a def from its body -/
def fvOf (m : Nat) (g : TSv) : Fv := fun svs w => match g (svs ++ List.replicate m .no) w with
  | some (.rt d w) => some (d, w)
  | some (.nx _ w) => some (.non, w)
  | _ => none
/-- slots at the entry -/
theorem sr_start {ast : Addr} {F H : Hp} {w : W} {svs : List SV} {vs : List V} {N : List Str} (so : StOk ast F H w) (ok : ArgsOk cA ast F H svs vs) (hN : vs.length ≤ N.length) :
    SR cA ast F H F (L2.start N vs) H (svs ++ List.replicate (N.length - svs.length) .no) w := by
  have hl := ok.length
  have old : ∀ {j : Nat} {s}, (svs ++ List.replicate (N.length - svs.length) SV.no)[j]? = some s → s = .no ∨ (svs[j]? = some s ∧ ∃ v, at_ (L2.start N vs) j = some v ∧ ArgOk cA ast F H s v) := by
    intro j s e
    by_cases hj : j < svs.length
    · rw [List.getElem?_append_left hj] at e
      obtain ⟨v, h1, h2⟩ := ok.get e
      refine .inr ⟨e, v, ?_, h2⟩
      unfold at_ L2.start
      rw [List.getElem?_append_left (by rw [List.length_map, ← hl]; exact hj), List.getElem?_map, h1]
      rfl
    · rw [List.getElem?_append_right (by omega), List.getElem?_replicate] at e
      split at e <;> cases e
      exact .inl rfl
  refine ⟨Fx.rfl', so, fun j s e => ?_, fun i j d e v n h1 _ _ _ => ?_, ?_⟩
  · rcases old e with q | ⟨q, v, hv, r⟩
    · subst q; trivial
    · cases s with
      | no => trivial
      | fr d => exact ⟨v, hv, r⟩
      | bor d =>
        obtain ⟨r, k⟩ := r
        refine ⟨v, hv, r, fun a ea => ⟨?_, k a ea⟩⟩
        obtain ⟨b, o, eb, _, hb⟩ := r.at
        rw [ea] at eb
        cases eb
        rw [hb]
        exact fun z => nomatch z
      | own d => exact r.elim
  · rcases old h1 with q | ⟨_, _, _, r⟩
    · cases q
    · exact r.elim
  · unfold L2.start
    rw [List.length_append, List.length_append, List.length_map, List.length_replicate, List.length_replicate, hl]
theorem fn_ok {x qual : Str} {st : Stmt} {f : Addr} {fd : FuncData} {N ps : List Str} {k n m : Nat} {g : TSv} (Fu : Fun K x qual st f fd) (S : FnScope N ps (defScope st)) (hn : ps.length = n) (hm : N.length = n + m)
    (hbody : ∀ (cdv : Value) (A : Around) (outer : List PySem.Env) (s : Shared) (H : Hp) (E : XK), Room k (A.deeper (envOfC qual (defScope st) s.heap.objs.size f cdv)) →
      PSs (cxOf CX0 P w K mg base N qual (defScope st) f cdv A outer s H E).nox (defBody st) (rdS cA g)) : FnOk P w K mg base CX0 (k + 1) f fd ps (spOf cA n (fvOf m g)) :=
  Fu.ok S (fun vs H Q E h => h.1.trans hn.symm) fun cdv A outer s H vs Q E hr h => by
    obtain ⟨hv, ast, F, svs, w0, d, w', so, ok, e, q⟩ := h
    refine ⟨_, hbody cdv A outer s H E hr, ?_⟩
    have hl := ok.length
    have em : N.length - svs.length = m := by omega
    have I := sr_start (N := N) so ok (by omega)
    rw [em] at I
    unfold fvOf at e
    split at e
    · rename_i d1 w1 e1
      cases e
      exact rdS_mk I e1 fun F' H' v fx so' r => q F' H' v fx so' r
    · rename_i env1 w1 e1
      cases e
      exact rdS_mk I e1 fun F' H' σ J sb => q F' H' .non J.fx J.so rfl
    · cases e
/-! ### an __init__ -/
def ivOf (c m : Nat) (g : TSv) : Iv := fun svs w => match g (.own (.ins c []) :: (svs ++ List.replicate m .no)) w with
  | some (.nx env w) => match ix env 0 with
    | some (.own (.ins c' ds)) => if Nat.beq c' c then some (ds, w) else none
    | _ => none
  | _ => none
theorem init_ok {x qual : Str} {st : Stmt} {f : Addr} {fd : FuncData} {dvs : List V} {kws : List (Str × V)} {N ps : List Str} {k n m cl : Nat} {g : TSv} (Fu : FunD K x qual (defArgs st) (defBody st) (defScope st) dvs kws f fd) (S : FnScope N ps (defScope st)) (hn : ps.length = n + 1) (hm : N.length = n + 1 + m)
    (hbody : ∀ (cdv : Value) (A : Around) (outer : List PySem.Env) (s : Shared) (H : Hp) (E : XK), Room k (A.deeper (envOfC qual (defScope st) s.heap.objs.size f cdv)) →
      PSs (cxOf CX0 P w K mg base N qual (defScope st) f cdv A outer s H E).nox (defBody st) (rdS cA g)) : FnOk P w K mg base CX0 (k + 1) f fd ps (spIn cA cl n (ivOf cl m g)) :=
  Fu.ok S (fun vs H Q E h => h.1.trans hn.symm) fun cdv A outer s H vs Q E hr h => by
    obtain ⟨hv, ast, F, H1, svs, w0, ds, w', p, dx, rest, rfl, rfl, np, ndx, nex, so, ok, e, q⟩ := h
    refine ⟨_, (hbody cdv A outer s _ E hr).nox, ?_⟩
    have hl := ok.length
    have hvl : rest.length = n := by simpa using hv
    have pa : p ≠ ast := fun z => by subst z; rw [so.hst] at np; cases np
    have da : dx ≠ ast := fun z => by subst z; rw [so.hst] at ndx; cases ndx
    have fp : F p = none := so.sub.none np
    have fdx : F dx = none := so.sub.none ndx
    have grow : ∀ a o, H1 a = some o → upd (upd H1 dx (.own p)) p (.ins (cA cl) dx []) a = some o := fun a o h => by
      rw [upd_ne (ne_of_none h np), upd_ne (ne_of_none h ndx)]; exact h
    let H0 : Hp := upd H1 ast (.own p)
    have h0p : H0 p = none := by show upd H1 ast _ p = none; rw [upd_ne pa]; exact np
    have I0 := sr_start (N := N.tail) so ok (by rw [List.length_tail]; omega)
    have em : N.tail.length - svs.length = m := by rw [List.length_tail]; omega
    rw [em] at I0
    have est : L2.start N (.ref p :: rest) = some (.ref p) :: L2.start N.tail rest := by
      unfold L2.start
      have : N.length - (rest.length + 1) = N.tail.length - rest.length := by rw [List.length_tail]; omega
      rw [List.map_cons, List.length_cons, this]
      rfl
    have I : SR cA ast F H0 F (L2.start N (.ref p :: rest)) (upd (upd H1 dx (.own p)) p (.ins (cA cl) dx [])) (.own (.ins cl []) :: (svs ++ List.replicate m .no)) w0 := by
      rw [est]
      refine ⟨⟨Sub.rfl', fun a o na h => ?_, fun a h => .inl h⟩, ⟨fun a o h => grow a o (so.sub a o h), so.fst, grow _ _ so.hst⟩, fun j s e => ?_, fun i j d e v n h1 h2 _ _ => ?_, by rw [List.length_cons, List.length_cons, I0.len]⟩
      · have : H1 a = some o := by
          have h : upd H1 ast (.own p) a = some o := h
          rw [upd_ne na] at h
          exact h
        exact grow a o this
      · cases j with
        | zero =>
          simp at e
          subst e
          refine ⟨.ref p, rfl, ⟨p, dx, [], rfl, fp, ?_, Nat.zero_le _, RelDs.nil⟩, fun a ea => by cases ea; exact ⟨h0p, pa⟩, fun _ => ⟨p, rfl, ?_⟩⟩
          · rw [upd_same]
            have : (fN cl).zip ([] : List V) = [] := by simp
            rw [this]
          · show upd H1 ast _ ast = _
            rw [upd_same]
        | succ j =>
          simp at e
          have z := I0.slots _ _ e
          have hat : at_ (some (.ref p) :: L2.start N.tail rest) (j + 1) = at_ (L2.start N.tail rest) j := by unfold at_; simp
          rw [hat]
          cases s with
          | no => trivial
          | fr d => exact z
          | bor d =>
            obtain ⟨v, e1, r, k⟩ := z
            refine ⟨v, e1, r.keep Sub.rfl' (fun _ h => .inl h) fun a o _ h => grow a o h, fun a ea => ⟨?_, (k a ea).2⟩⟩
            show upd H1 ast _ a ≠ none
            rw [upd_ne (k a ea).2]
            exact (k a ea).1
          | own d =>
            exfalso
            have : svs[j]? = some (.own d) := by
              by_cases hj : j < svs.length
              · rw [List.getElem?_append_left hj] at e; exact e
              · rw [List.getElem?_append_right (by omega), List.getElem?_replicate] at e
                split at e <;> cases e
            obtain ⟨v, _, r⟩ := ok.get this
            exact r.elim
      · have no : ∀ {j : Nat} {d : D}, (svs ++ List.replicate m SV.no)[j]? = some (.own d) → False := fun {j d} e => by
          by_cases hj : j < svs.length
          · rw [List.getElem?_append_left hj] at e
            obtain ⟨v, _, r⟩ := ok.get e
            exact r.elim
          · rw [List.getElem?_append_right (by omega), List.getElem?_replicate] at e
            split at e <;> cases e
        cases i with
        | zero => cases j with
          | zero => exact n rfl
          | succ j => simp at h2; exact no (by simpa using h2)
        | succ i => simp at h1; exact no (by simpa using h1)
    unfold ivOf at e
    split at e
    · rename_i env1 w1 e1
      rw [ix_eq] at e
      split at e
      · rename_i c' ds' e2
        split at e
        · rename_i hc
          have hc : c' = cl := Nat.eq_of_beq_eq_true hc
          subst hc
          cases e
          refine rdS_mk I e1 fun F' H' σ J sb => q F' H' ?_ J.so ?_
          · refine ⟨J.fx.fz, fun a o na h => J.fx.hk a o na ?_, fun a h => (J.fx.new a h).elim .inl fun z => .inr ?_⟩
            · show upd H1 ast _ a = _
              rw [upd_ne na]; exact h
            · by_cases ea : a = ast
              · rcases z with z | ⟨vs, z⟩
                · have z : upd H1 ast (.own p) a = none := z
                  rw [ea, upd_same] at z; cases z
                · have z : upd H1 ast (.own p) a = some (.tup vs) := z
                  rw [ea, upd_same] at z; cases z
              · rcases z with z | ⟨vs, z⟩
                · have z : upd H1 ast (.own p) a = none := z
                  rw [upd_ne ea] at z; exact .inl z
                · have z : upd H1 ast (.own p) a = some (.tup vs) := z
                  rw [upd_ne ea] at z; exact .inr ⟨vs, z⟩
          · obtain ⟨v, _, r, _, m0⟩ := J.slots _ _ e2
            obtain ⟨a, rfl, ea⟩ := m0 rfl
            have ea : upd H1 ast (.own p) ast = some (.own a) := ea
            rw [upd_same] at ea
            cases ea
            exact r
        · cases e
      · cases e
    · cases e
end Ev

set_option maxHeartbeats 4000000
namespace Ev
open PySem L2 PyProof.Rows Srt SrtO
section
variable {prog : Program} {w : World} {A : Around} {E : Value → Shared → Prop} {s : Shared}

/-! ### tuples of ints, compared as Python compares them -/
def lexI : List Int → List Int → Bool
  | [], [] => false
  | [], _ :: _ => true
  | _ :: _, [] => false
  | x :: xs, y :: ys => if x = y then lexI xs ys else decide (x < y)
theorem lexI_asym : ∀ x y, lexI x y = true → lexI y x = false
  | [], [], h => by cases h
  | [], _ :: _, _ => rfl
  | _ :: _, [], h => by cases h
  | x :: xs, y :: ys, h => by
    simp only [lexI] at h ⊢
    by_cases e : x = y
    · rw [if_pos e] at h; rw [if_pos e.symm]; exact lexI_asym xs ys h
    · rw [if_neg e] at h; rw [if_neg (Ne.symm e)]
      have := of_decide_eq_true h
      exact decide_eq_false (by omega)
theorem lexI_tr : ∀ x y z, lexI y x = false → lexI z y = false → lexI z x = false
  | [], _, [], _, _ => rfl
  | [], [], _ :: _, _, h => by simpa [lexI] using h
  | [], y :: ys, z :: zs, _, _ => rfl
  | x :: xs, [], _, h, _ => by simp [lexI] at h
  | x :: xs, y :: ys, [], _, h => by simp [lexI] at h
  | x :: xs, y :: ys, z :: zs, h1, h2 => by
    simp only [lexI] at h1 h2 ⊢
    by_cases e1 : y = x
    · rw [if_pos e1] at h1
      by_cases e2 : z = y
      · rw [if_pos e2] at h2
        rw [if_pos (e2.trans e1)]
        exact lexI_tr xs ys zs h1 h2
      · rw [if_neg e2] at h2
        rw [if_neg (by rw [← e1]; exact e2), ← e1]
        exact h2
    · rw [if_neg e1] at h1
      have a := of_decide_eq_false h1
      by_cases e2 : z = y
      · rw [if_neg (by rw [e2]; exact e1), e2]
        exact h1
      · rw [if_neg e2] at h2
        have b := of_decide_eq_false h2
        rw [if_neg (by omega)]
        exact decide_eq_false (by omega)
theorem swo_lexI (k : Value → List Int) : Swo fun v u => lexI (k v) (k u) := ⟨fun x y h => lexI_asym _ _ h, fun x y z h1 h2 => lexI_tr _ _ _ h1 h2⟩
/-- v is a tuple of the ints ns -/
def IsTI (h : Heap) (v : Value) (ns : List Int) : Prop := ∃ (a : Addr) (o : Obj) (xs : Array Value) (n : Nat), v = .ref a ∧ h.get? a = some o ∧ o.cls = .type "tuple" ∧ o.data = .seq xs n ∧ IntsAre xs.toList ns
theorem IsTI.keeps {h h' : Heap} {v : Value} {ns : List Int} (t : IsTI h v ns) (k : ∀ b o, h.get? b = some o → o.cls = .type "tuple" → h'.get? b = some o) : IsTI h' v ns := by
  obtain ⟨a, o, xs, n, e, ho, hc, hd, hi⟩ := t
  exact ⟨a, o, xs, n, e, k _ _ ho hc, hc, hd, hi⟩
theorem kat_ints {b : Bool} : ∀ {xs ys : List Value} {ns ms : List Int} (i : Nat), IntsAre xs ns → IntsAre ys ms →
    PySem.W.KatLex prog w A b (decide (xs.length < ys.length)) (fun r s' => s' = s ∧ r = lexI ns ms) (xs.zip ys) i s
  | [], [], _, _, i, .nil, .nil => PySem.W.kat_nil ⟨rfl, rfl⟩
  | [], _ :: ys, _, _, i, .nil, .cons m u r => PySem.W.kat_nil ⟨rfl, by simp [lexI]⟩
  | _ :: xs, [], _, _, i, .cons n t r, .nil => PySem.W.kat_nil ⟨rfl, by simp [lexI]⟩
  | _ :: xs, _ :: ys, _, _, i, .cons n t r, .cons m u q => by
    rename_i ns ms
    rw [List.zip_cons_cons]
    refine PySem.W.kat_cons (SeqAt.EqAt.int_int n t m u prog w _ _ ?_)
    refine PySem.W.kat_go (fun e1 => ?_) (fun e1 => ?_)
    · have ex : n = m := by simpa using e1
      have ih := kat_ints (b := b) (i + 1) r q
      have el : decide ((Value.int n t :: xs).length < (Value.int m u :: ys).length) = decide (xs.length < ys.length) := by simp
      have ee : lexI (n :: ns) (m :: ms) = lexI ns ms := by simp only [lexI]; rw [if_pos ex]
      rw [el, ee]
      exact PySem.W.kat_yes ih
    · have ex : ¬ n = m := by simpa using e1
      have ee : lexI (n :: ns) (m :: ms) = decide (n < m) := by simp only [lexI]; rw [if_neg ex]
      rw [ee]
      refine PySem.W.kat_no ?_
      cases hb : (b && i == 0) with
      | true => exact oneLt_int ⟨rfl, rfl⟩
      | false => exact PySem.W.kat_one _ _ (PyProof.Rows.lt_int ⟨rfl, rfl⟩)
theorem tup_cmp {b : Bool} {vs : List Value} {k : Value → List Int} (hp : ∀ v ∈ vs, IsTI s.heap v (k v)) : Cmp prog w A s (tuples' b) (fun p => p.1 ∈ vs) (lt2 fun v u => lexI (k v) (k u)) := by
  intro p q hm hm'
  have h1 := hp _ hm
  have h2 := hp _ hm'
  show wpAny (model prog w) A (keyLt' (tuples' b) p.1 q.1) (fun r s' => s' = s ∧ r = lexI (k p.1) (k q.1)) (fun _ _ => False) s
  obtain ⟨a, o, xs, n, e, ho, hc, hd, hi⟩ := h1
  obtain ⟨a', o', xs', n', e', ho', hc', hd', hi'⟩ := h2
  generalize k p.1 = ns at hi ⊢
  generalize k q.1 = ms at hi' ⊢
  rw [e, e']
  refine PySem.W.kat_lt ho hd ho' hd' ?_
  have := kat_ints (prog := prog) (w := w) (A := A) (s := s) (b := b) 0 hi hi'
  simpa using this
theorem firstsT {h : Heap} {k : Value → List Int} : ∀ {vs : List Value}, (∀ v ∈ vs, IsTI h v (k v) ∧ k v ≠ []) → ∃ fs, PySem.W.KatTups h vs fs ∧ fs.length = vs.length ∧ ∀ f ∈ fs, ∃ x t, f = Value.int x t
  | [], _ => ⟨[], .nil, rfl, fun f hf => absurd hf (by simp)⟩
  | v :: vs, hv => by
    obtain ⟨fs, h1, h2, h3⟩ := firstsT fun u hu => hv u (List.mem_cons_of_mem _ hu)
    obtain ⟨⟨a, o, xs, n, e, ho, hc, hd, hi⟩, hne⟩ := hv v List.mem_cons_self
    subst e
    cases hx : xs.toList with
    | nil => rw [hx] at hi; cases hk : k (.ref a) with
      | nil => exact absurd hk hne
      | cons _ _ => rw [hk] at hi; cases hi
    | cons y ys =>
      rw [hx] at hi
      obtain ⟨z, t, ey⟩ := ints_mem hi y List.mem_cons_self
      have h0 : xs[0]? = some y := by rw [← Array.getElem?_toList, hx]; rfl
      refine ⟨y :: fs, .cons ho hc hd h0 h1, by simp [h2], fun f hf => ?_⟩
      rcases List.mem_cons.mp hf with e | hf
      · exact ⟨z, t, e.trans ey⟩
      · exact h3 f hf
theorem tups_sortable {a : Addr} {vs : List Value} {k : Value → List Int} (h0 : 0 < vs.length) (hp : ∀ v ∈ vs, IsTI s.heap v (k v) ∧ k v ≠ []) (ha : ∀ o, s.heap.get? a = some o → o.cls ≠ .type "tuple") : SortableO prog w A s a vs fun v u => lexI (k v) (k u) := by
  intro h' keep
  have hp' : ∀ v ∈ vs, IsTI h' v (k v) ∧ k v ≠ [] := fun v hm => ⟨(hp v hm).1.keeps fun b o e c => keep b o (fun z => by subst z; exact ha o e c) e, (hp v hm).2⟩
  obtain ⟨fs, h1, h2, h3⟩ := firstsT hp'
  refine ⟨tuples' true, fun Q E hq => ?_, tup_cmp fun v hm => (hp' v hm).1⟩
  refine PySem.W.kat_kind (T := .type "int") h1 (by omega) (fun f hm => ?_) (by rfl) ?_
  · obtain ⟨x, t, rfl⟩ := h3 f hm
    exact PySem.W.Looks.now
  · have e : (Value.type "int" != Value.type "tuple") = true := by first | decide +kernel | rfl | decide
    rw [e]
    exact hq
/-! ### sorted, of whatever is gathered -/
theorem collect_tup {l : Addr} {vs : List Value} {Q : List Value → Shared → Prop} (hl : IsTup s.heap l vs.toArray)
    (h : Q vs { s with heap := (s.heap.push (seqObj "list" #[] 0)).update s.heap.objs.size (Obj.mapSeq (· ++ vs.toArray)) }) (hsz : vs.length ≤ sizeLine) :
    wpAny (model prog w) A (collect (.ref l)) Q E s := by
  obtain ⟨o, ho, hc, n, hd⟩ := id hl
  unfold collect
  refine wpAny_bind (wpAny_runValue (codeAny_builtin entry_proto_collect' ?_))
  show wpAny _ _ (do again (.builtin "list.__iadd__" ⟨[← newList [], .ref l], []⟩)) _ _ s
  refine wpAny_bind (wpAny_newList (wpAny_pure ⟨Code.quiet_builtin _ (by decide +kernel), codeAny_builtin entry_list_iadd' ?_⟩))
  show wpAny _ _ (Builtin.List.listExtendWith (.ref s.heap.objs.size) (.ref l) (.ref s.heap.objs.size)) _ _ { s with heap := s.heap.push (seqObj "list" #[] 0) }
  unfold Builtin.List.listExtendWith
  have ho' : (s.heap.push (seqObj "list" #[] 0)).get? l = some o := Heap.get?_push_of_some _ ho
  refine wpAny_bind (wpAny_typeOf (T := "tuple") ⟨o, ho', hc⟩ ?_)
  have ht : (Value.type "tuple" == Value.type "tuple") = true := by rfl
  rw [if_pos (by rw [ht]; simp)]
  refine wpAny_bind (listItems_at ho' hd ?_)
  refine wpAny_bind (listItems_at (xs := #[]) (n := 0) (Heap.get?_push_size _ rfl) rfl ?_)
  rw [if_neg (by simp)]
  refine wpAny_bind (listUpdate_at (xs := #[]) (n := 0) (Heap.get?_push_size _ rfl) rfl ?_ (Nat.zero_le _) (by show (#[] ++ vs.toArray).size ≤ sizeLine + 1; simp only [Array.size_append, List.size_toArray, List.length_nil]; omega))
  refine wpAny_pure ?_
  show wpAny (model prog w) A (do
      let o ← load s.heap.objs.size
      match o.data with
      | .seq xs _ => pure xs.toList
      | _ => unsupported "internal:collect") Q E { s with heap := (s.heap.push (seqObj "list" #[] 0)).update s.heap.objs.size (Obj.mapSeq (· ++ vs.toArray)) }
  refine wpAny_bind (wpAny_load (get?_update_seq (Heap.get?_push_size _ rfl) _) ?_)
  show wpAny _ _ (pure ((#[] : Array Value) ++ vs.toArray).toList) Q E _
  rw [show ((#[] : Array Value) ++ vs.toArray).toList = vs by simp]
  exact wpAny_pure h
/-- what gathering src may do -/
def Gath (s s1 : Shared) : Prop := (∀ b o, s.heap.get? b = some o → s1.heap.get? b = some o) ∧ s1.gens = s.gens ∧ s1.os = s.os
theorem sorted_gath {src : Value} {C : List Value → Prop} {ltv : Value → Value → Bool} {Q : Value → Shared → Prop} (O : Swo ltv)
    (hcol : ∀ R : List Value → Shared → Prop, (∀ vs s1, Gath s s1 → C vs → vs.length ≤ sizeLine → R vs s1) → wpAny (model prog w) A.in1 (collect src) R E s)
    (hS : ∀ vs (h₁ : Heap) (a : Addr), C vs → 2 ≤ vs.length → (∀ b o, s.heap.get? b = some o → b ≠ a ∧ h₁.get? b = some o) → h₁.get? a = some (seqObj "list" vs.toArray 0) → ∀ s1 : Shared, s1.heap = h₁ → SortableO prog w A.in1.in1 s1 a vs ltv)
    (h : ∀ vs (out : List Value) (s1 s' : Shared) (n : Nat), C vs → Srtd ltv out → Stb ltv out vs → vs.length ≤ sizeLine → Gath s s1 → Gath s1 s' → s'.heap.get? s1.heap.objs.size = some (seqObj "list" out.toArray n) → Q (.ref s1.heap.objs.size) s') :
    wpAny (model prog w) A (call (.builtin "sorted") [src]) Q E s := by
  refine Calls.call_function_entry kind_sorted plain_sorted entry_sorted (args_sorted1 _) ?_
  unfold Builtin.«sorted»
  refine wpAny_bind (m := checkCount "sorted" 1 1 _) (wpAny_pure ?_)
  refine wpAny_bind (hcol _ fun vs s1 g hC hz => ?_)
  obtain ⟨k1, g1, o1⟩ := id g
  refine wpAny_bind (wpAny_newList ?_ hz)
  have hoL : (s1.heap.push (seqObj "list" vs.toArray 0)).get? s1.heap.objs.size = some (seqObj "list" vs.toArray 0) := Heap.get?_push_size _ rfl
  have keep : ∀ b o, s.heap.get? b = some o → b ≠ s1.heap.objs.size ∧ (s1.heap.push (seqObj "list" vs.toArray 0)).get? b = some o := fun b o q => by
    have q1 := k1 b o q
    exact ⟨Nat.ne_of_lt (Heap.lt_size q1), Heap.get?_push_of_some _ q1⟩
  refine wpAny_bind (wpAny_holding (wpAny_call_entry (s := { s1 with heap := s1.heap.push (seqObj "list" vs.toArray 0) }) slot_list_sort ⟨_, hoL, rfl⟩ entry_list_sort (list_sort_ord O hoL hz (fun h2 => hS vs _ _ hC h2 keep hoL _ rfl) fun out hs hb => ⟨_, rfl, ?_⟩) (args_list_sort _)))
  obtain ⟨c, hc⟩ := sortedHeap_at (vs := vs) (out := out.toArray) hoL
  refine wpAny_pure ⟨_, rfl, h vs out s1 _ c hC hs hb hz g ⟨fun b u e => ?_, rfl, rfl⟩ hc⟩
  have hlt := Heap.lt_size e
  show (sortedHeap (s1.heap.push (seqObj "list" vs.toArray 0)) s1.heap.objs.size vs out.toArray).get? b = some u
  rw [sortedHeap_old (Nat.ne_of_lt hlt) (by rw [size_push']; exact Nat.lt_succ_of_lt hlt)]
  exact Heap.get?_push_of_some _ e
/-- a list's or a tuple's items -/
theorem gath_seq {l : Addr} {vs : List Value} (R : List Value → Shared → Prop) (hl : s.heap.IsList l vs.toArray ∨ IsTup s.heap l vs.toArray) (hz : vs.length ≤ sizeLine)
    (h : ∀ vs' s1, Gath s s1 → vs' = vs → vs'.length ≤ sizeLine → R vs' s1) : wpAny (model prog w) A (collect (.ref l)) R E s := by
  have g : Gath s { s with heap := (s.heap.push (seqObj "list" #[] 0)).update s.heap.objs.size (Obj.mapSeq (· ++ vs.toArray)) } := ⟨fun b o e => by
    show ((s.heap.push (seqObj "list" #[] 0)).update s.heap.objs.size (Obj.mapSeq (· ++ vs.toArray))).get? b = some o
    rw [Heap.get?_update_ne _ _ _ _ (Nat.ne_of_lt (Heap.lt_size e))]
    exact Heap.get?_push_of_some _ e, rfl, rfl⟩
  rcases hl with hl | hl
  · exact collect_list hl (h _ _ g rfl hz) hz
  · exact collect_tup hl (h _ _ g rfl hz) hz
end
section
variable {X : Cx} {pins : List (Addr × Obj)} {σ : L2.St} {H : Hp} {s s1 s' : Shared}
theorem inv_gath (I : Inv X pins σ H s) (g : Gath s s1) : Inv X pins σ H s1 := by
  obtain ⟨k, g1, o1⟩ := g
  have J : Inv X pins σ H { s with heap := s1.heap, gens := s1.gens, drawn := s1.drawn, toks := s1.toks } := I.call (ch := []) (Un.kept k) (I.hok.kept k) (by rw [g1]; exact I.bare) (fun _ z => nomatch z)
  have e : s1 = { s with heap := s1.heap, gens := s1.gens, drawn := s1.drawn, toks := s1.toks } := by
    cases s1
    cases s
    cases o1
    rfl
  rw [e]
  exact J
theorem inv_list (I : Inv X pins σ H s) (g : Gath s s') {ys : List V} {out : List Value} {n : Nat} (hlen : ys.length ≤ sizeLine) (hv : Vals ys out) (hg : s'.heap.get? s.heap.objs.size = some (seqObj "list" out.toArray n)) : Inv X pins σ (upd H s.heap.objs.size (.lst ys)) s' := by
  obtain ⟨k, g1, o1⟩ := g
  have hn : H s.heap.objs.size = none := I.hok.fresh (Nat.le_refl _)
  have J : Inv X pins σ (upd H s.heap.objs.size (.lst ys)) { s with heap := s'.heap, gens := s'.gens, drawn := s'.drawn, toks := s'.toks } :=
    I.call (ch := []) (Un.laid k (Nat.le_refl _) hn) (I.hok.laid k (Nat.le_refl _) ⟨hlen, out, n, hv, hg⟩) (by rw [g1]; exact I.bare) (fun _ z => nomatch z)
  have e : s' = { s with heap := s'.heap, gens := s'.gens, drawn := s'.drawn, toks := s'.toks } := by
    cases s'
    cases s
    cases o1
    rfl
  rw [e]
  exact J
end
end Ev

set_option maxHeartbeats 4000000
namespace Ev
open PySem L2 PyProof.Rows Srt SrtO
section
variable {X : Cx} {K : PySem.W.Frag}
theorem isTI_of {pins σ H s} (I : Inv X pins σ H s) {t : Addr} {ns : List Int} (h : SqT X.K H t (ns.map V.int)) : IsTI s.heap (.ref t) ns := by
  obtain ⟨its, rv, ⟨o, ho, hc, n, hd⟩, _⟩ := I.tuple h
  exact ⟨t, o, its.toArray, n, rfl, ho, hc, hd, by simpa using rv.ints⟩
/-- sorted(xs), xs a list or a tuple of tuples of ints -/
def rSrtT (K : PySem.W.Frag) : List V → Hp → VK → Prop := fun vs H Q => ∃ (a : Addr) (xs : List V) (k : V → List Int), vs = [V.ref a] ∧ (SqL K H a xs ∨ SqT K H a xs) ∧ (∀ x ∈ xs, ∃ t, x = V.ref t ∧ SqT K H t ((k x).map V.int) ∧ k x ≠ []) ∧
  ∀ ys p, Srtd (fun x y => lexI (k x) (k y)) ys → Stb (fun x y => lexI (k x) (k y)) ys xs → H p = none → Q (.ref p) (upd H p (.lst ys))
theorem swo_lexV (k : V → List Int) : Swo fun v u => lexI (k v) (k u) := ⟨fun x y h => lexI_asym _ _ h, fun x y z h1 h2 => lexI_tr _ _ _ h1 h2⟩
theorem inv_seq {pins σ H s} (I : Inv X pins σ H s) {a : Addr} {xs : List V} (h : SqL X.K H a xs ∨ SqT X.K H a xs) : ∃ its : List Value, Vals xs its ∧ (s.heap.IsList a its.toArray ∨ IsTup s.heap a its.toArray) ∧ xs.length ≤ sizeLine := by
  rcases h with h | h
  · obtain ⟨its, rv, pl, hz⟩ := I.list h
    exact ⟨its, rv, .inl pl.isList, hz⟩
  · obtain ⟨its, rv, pl, hz⟩ := I.tuple h
    exact ⟨its, rv, .inr pl, hz⟩
theorem cr_srtT : CallR X (.builtin "sorted") (rSrtT X.K) := by
  intro pins s σ H vs us Q I r h
  obtain ⟨a, xs, k, rfl, hs, hx, q⟩ := h
  obtain ⟨its, rv, hl, hz⟩ := inv_seq I hs
  rw [Vals.ref1 r]
  obtain ⟨e1, e2⟩ := refs_back rv fun x m => by
    obtain ⟨t, e, _⟩ := hx x m
    exact ⟨t, e⟩
  have hp : ∀ v ∈ its, IsTI s.heap v (k (backV v)) ∧ k (backV v) ≠ [] := fun v hv => by
    obtain ⟨t, rfl⟩ := e2 v hv
    have hm : V.ref t ∈ xs := by rw [e1]; exact List.mem_map.mpr ⟨_, hv, rfl⟩
    obtain ⟨t', e, ht, hne⟩ := hx _ hm
    cases e
    exact ⟨isTI_of I ht, hne⟩
  refine sorted_gath (C := fun vs => vs = its) (swo_lexI fun v => k (backV v)) (fun R hR => gath_seq R hl (by rw [← rv.length]; exact hz) fun vs' s1 g e hz' => hR vs' s1 g e hz') (fun vs' h₁ a' hC h2 keep ha s1 hs1 => ?_) fun vs' out s1 s' n hC h1 h2 hz' g1 g2 hg => ?_
  · subst hC
    refine tups_sortable (by omega) (fun v hv => ⟨(hp v hv).1.keeps fun b o e _ => by rw [hs1]; exact (keep b o e).2, (hp v hv).2⟩) fun o e => ?_
    rw [hs1, ha] at e
    cases e
    intro c
    exact absurd (Value.type.inj c) (by decide)
  · subst hC
    have h3 : ∀ u ∈ out, ∃ a, u = Value.ref a := fun u hu => e2 u (h2.perm.mem_iff.mp hu)
    have hb : Stb (fun x y => lexI (k x) (k y)) (out.map backV) xs := by
      rw [e1]
      exact SrtO.Stb.map (swo_lexV k) backV h2
    have I1 := inv_gath I g1
    refine ⟨.ref s1.heap.objs.size, upd H s1.heap.objs.size (.lst (out.map backV)), inv_list I1 g2 (by rw [hb.len]; exact hz) (vals_back h3) hg, rfl, q _ _ (srtd_map h1) hb (I1.hok.fresh (Nat.le_refl _))⟩
/-- sorted(xs), xs a list or a tuple of ints -/
def rSrtI (K : PySem.W.Frag) : List V → Hp → VK → Prop := fun vs H Q => ∃ (a : Addr) (ns : List Int), vs = [V.ref a] ∧ (SqL K H a (ns.map V.int) ∨ SqT K H a (ns.map V.int)) ∧
  ∀ (ns' : List Int) (p : Addr), ns'.Perm ns → ns'.Pairwise (· ≤ ·) → H p = none → Q (.ref p) (upd H p (.lst (ns'.map V.int)))
theorem cr_srtI : CallR X (.builtin "sorted") (rSrtI X.K) := by
  intro pins s σ H vs us Q I r h
  obtain ⟨a, ns, rfl, hs, q⟩ := h
  obtain ⟨its, rv, hl, hz⟩ := inv_seq I hs
  rw [Vals.ref1 r]
  have hi := rv.ints
  refine sorted_gath (C := fun vs => vs = its) SrtO.swo_int (fun R hR => gath_seq R hl (by rw [← rv.length]; exact hz) fun vs' s1 g e hz' => hR vs' s1 g e hz') (fun vs' h₁ a' hC h2 keep ha s1 hs1 => ?_) fun vs' out s1 s' n hC h1 h2 hz' g1 g2 hg => ?_
  · subst hC
    exact SrtO.ints_sortable hi h2
  · subst hC
    obtain ⟨k1, k2, k3⟩ := SrtO.ints_out hi h1 h2
    have hlen : ((out.map SrtO.iv).map V.int).length ≤ sizeLine := by
      rw [List.length_map, k2.length_eq]
      rw [List.length_map] at hz
      exact hz
    have I1 := inv_gath I g1
    exact ⟨.ref s1.heap.objs.size, _, inv_list I1 g2 hlen (vals_of_ints k1) hg, rfl, q _ _ k2 k3 (I1.hok.fresh (Nat.le_refl _))⟩
/-- sorted(d), the keys tuples of ints -/
def rSrtD : List V → Hp → VK → Prop := fun vs H Q => ∃ (d : Addr) (kvs : List (List Key × V)), vs = [V.ref d] ∧ H d = some (.dT kvs) ∧ kvs.length ≤ sizeLine ∧
  ∀ bs, IsKeys H kvs bs → ∃ k : V → List Int, (∀ b ∈ bs, H b = some (.tup ((k (.ref b)).map V.int)) ∧ k (.ref b) ≠ []) ∧
    ∀ ys p, Srtd (fun x y => lexI (k x) (k y)) ys → Stb (fun x y => lexI (k x) (k y)) ys (bs.map V.ref) → H p = none → Q (.ref p) (upd H p (.lst ys))
theorem keys_of_acc {P : Program} {w : World} {es : Array DictEntry} {ks : List (List Key × Addr × Value)} {acc' : Array Value} (l1 : es.size = ks.length) (he : es.toList = ks.map fun x => entryOfKey (tupleKind (mixKind P w)) x) (it : ItemsOf (fun i v => ∃ en : DictEntry, es[i]? = some en ∧ v = en.key) acc' es.size) :
    acc'.toList = ks.map fun x => Value.ref x.2.1 := by
  have hl : acc'.toList.length = ks.length := by rw [Array.length_toList, it.1]; exact l1
  apply List.ext_getElem?
  intro j
  rw [List.getElem?_map]
  cases hj : acc'.toList[j]? with
  | none =>
    have h1 := List.getElem?_eq_none_iff.mp hj
    rw [List.getElem?_eq_none (by omega)]
    all_goals rfl
  | some v =>
    obtain ⟨en, hen, hv⟩ := it.2 j v (by rw [← Array.getElem?_toList]; exact hj)
    have qe := entry_at he j
    rw [hen] at qe
    cases hb : ks[j]? with
    | none =>
      rw [hb] at qe
      exact nomatch (show some en = none from qe)
    | some b =>
      rw [hb] at qe
      have e2 : en = entryOfKey (tupleKind (mixKind P w)) b := Option.some.inj qe
      rw [hv, e2]
      all_goals rfl
theorem cr_srtD (hc : X.calm = true) : CallR X (.builtin "sorted") rSrtD := by
  intro pins s σ H vs us Q I r h
  obtain ⟨d, kvs, rfl, hd, hzk, q⟩ := h
  rw [Vals.ref1 r]
  obtain ⟨z, hs, ks, pr, o, es, ep, ho, hx, hdt, he, hn⟩ := (show ObjOk X.prog X.w H s.heap d (.dT kvs) from I.hok d _ hd)
  have l1 : es.size = ks.length := size_of_entries he
  have l2 : kvs.length = ks.length := Paired.length pr
  obtain ⟨k, hk, q⟩ := q _ (isKeys_of pr)
  have hp : ∀ v ∈ ks.map (fun x => Value.ref x.2.1), IsTI s.heap v (k (backV v)) ∧ k (backV v) ≠ [] := fun v hv => by
    obtain ⟨x, hx, rfl⟩ := List.mem_map.mp hv
    obtain ⟨hb, hne⟩ := hk x.2.1 (List.mem_map.mpr ⟨x, hx, rfl⟩)
    exact ⟨isTI_of I (SqT.of hb), hne⟩
  refine sorted_gath (C := fun vs => vs = ks.map fun x => Value.ref x.2.1) (swo_lexI fun v => k (backV v)) (fun R hR => PySem.W.kdu_collect (A := X.A.in1) (kdl_raw hs hx hdt) (I.ok.hd hc) ho (by omega) fun h' tk acc kp it => ?_) (fun vs' h₁ a' hC h2 keep ha s1 hs1 => ?_) fun vs' out s1 s' n hC h1 h2 hz' g1 g2 hg => ?_
  · have e := keys_of_acc l1 he it
    exact hR acc.toList _ ⟨kp, rfl, rfl⟩ e (by rw [e, List.length_map]; omega)
  · subst hC
    refine tups_sortable (by omega) (fun v hv => ⟨(hp v hv).1.keeps fun b o e _ => by rw [hs1]; exact (keep b o e).2, (hp v hv).2⟩) fun o e => ?_
    rw [hs1, ha] at e
    cases e
    intro c
    exact absurd (Value.type.inj c) (by decide)
  · subst hC
    have h3 : ∀ u ∈ out, ∃ a, u = Value.ref a := fun u hu => by
      obtain ⟨x, _, e⟩ := List.mem_map.mp (h2.perm.mem_iff.mp hu)
      exact ⟨_, e.symm⟩
    have eb : (ks.map fun x => Value.ref x.2.1).map backV = (ks.map fun x => x.2.1).map V.ref := by rw [List.map_map, List.map_map]; rfl
    have hb : Stb (fun x y => lexI (k x) (k y)) (out.map backV) ((ks.map fun x => x.2.1).map V.ref) := by
      rw [← eb]
      exact SrtO.Stb.map (swo_lexV k) backV h2
    have I1 := inv_gath I g1
    refine ⟨.ref s1.heap.objs.size, upd H s1.heap.objs.size (.lst (out.map backV)), inv_list I1 g2 (by rw [hb.len, List.length_map, List.length_map]; omega) (vals_back h3) hg, rfl, q _ _ (srtd_map h1) hb (I1.hok.fresh (Nat.le_refl _))⟩
/-- sorted(S), S a set of tuples of ints -/
def rSrtS (K : PySem.W.Frag) (P : Program) (w : World) : List V → Hp → VK → Prop := fun vs H Q => ∃ (a : Addr) (L : List (Addr × List Int)), vs = [V.ref a] ∧ H a = some (SetTO P w a L) ∧ (∀ p ∈ L, SqT K H p.1 (p.2.map V.int) ∧ p.2 ≠ []) ∧
  ((L.map (·.2)).Nodup → ∀ (L' : List (Addr × List Int)) (p : Addr), L'.Perm L → L'.Pairwise (fun q r => lexI r.2 q.2 = false) → H p = none → Q (.ref p) (upd H p (.lst (L'.map fun q => V.ref q.1))))
theorem cr_srtS (hc : X.calm = true) : CallR X (.builtin "sorted") (rSrtS X.K X.prog X.w) := by
  intro pins s σ H vs us Q I r h
  obtain ⟨a, L, rfl, ha, hk, q⟩ := h
  have R0 : SetT0 X.prog X.w s.heap a L := (I.hok a _ ha).1
  obtain ⟨es, ep, t, R⟩ := R0.full fun p hp => I.isT (hk p hp).1
  rw [Vals.ref1 r]
  obtain ⟨o, ho, hex, hd⟩ := R.ob
  have hsz := R.size
  have hfew := R.few
  have hes : es.toList.map (·.2) = L.map fun q => Value.ref q.1 := by
    rw [R.rows]
    unfold rowsOf
    rw [List.map_map] <;> rfl
  have ord : ∀ vs : List Value, (∀ v ∈ vs, ∃ q ∈ L, v = Value.ref q.1) → ∃ L1 : List (Addr × List Int), vs = L1.map (fun q => Value.ref q.1) ∧ ∀ q ∈ L1, q ∈ L := by
    intro vs
    induction vs with
    | nil => intro _; exact ⟨[], rfl, fun q hq => (by cases hq)⟩
    | cons v vs ih =>
      intro hv
      obtain ⟨q, hq, e⟩ := hv v List.mem_cons_self
      obtain ⟨L1, e1, hs⟩ := ih fun u hu => hv u (List.mem_cons_of_mem _ hu)
      refine ⟨q :: L1, by rw [List.map_cons, e, e1], fun r hr => ?_⟩
      rcases List.mem_cons.mp hr with z | z
      · rw [z]; exact hq
      · exact hs r z
  have one : ∀ q ∈ L, ∀ r ∈ L, q.1 = r.1 → q = r := fun q hq r hr e => by
    have a1 := R.tup q hq
    have a2 := R.tup r hr
    rw [e] at a1
    have e2 : q.2 = r.2 := a1.inj a2
    exact Prod.ext e e2
  have perm_of : ∀ L1 : List (Addr × List Int), (∀ q ∈ L1, q ∈ L) → (L1.map (fun q => Value.ref q.1)).Perm (L.map fun q => Value.ref q.1) → L1.Perm L := by
    intro L1 hs pm1
    have nL : L.Nodup := nodup_of_map R.nd
    have nref : (L.map fun q => Value.ref q.1).Nodup := by
      refine List.pairwise_map.mpr (List.Pairwise.imp_of_mem (fun {q r} hq hr hne e => ?_) nL)
      injection e with e
      exact hne (one q hq r hr e)
    have n1 : L1.Nodup := nodup_of_map (pm1.nodup_iff.mpr nref)
    refine (List.perm_ext_iff_of_nodup n1 nL).mpr fun q => ⟨hs q, fun hq => ?_⟩
    have hm : Value.ref q.1 ∈ L1.map (fun q => Value.ref q.1) := pm1.mem_iff.mpr (List.mem_map.mpr ⟨q, hq, rfl⟩)
    obtain ⟨r, hr, e⟩ := List.mem_map.mp hm
    injection e with e
    rw [← one r (hs r hr) q hq e]
    exact hr
  -- the key of a value
  let k : Value → List Int := fun v => match v with
    | .ref b => ((L.find? fun q => q.1 == b).map (·.2)).getD []
    | _ => []
  have hkey : ∀ q ∈ L, k (.ref q.1) = q.2 := fun q hq => by
    show ((L.find? fun r => r.1 == q.1).map (·.2)).getD [] = q.2
    cases e : L.find? (fun r => r.1 == q.1) with
    | none =>
      have := List.find?_eq_none.mp e q hq
      simp at this
    | some r =>
      have h1 := List.mem_of_find?_eq_some e
      have h2 : (r.1 == q.1) = true := List.find?_some (p := fun r : Addr × List Int => r.1 == q.1) e
      rw [one r h1 q hq (by simpa using h2)]
      rfl
  have hp : ∀ v ∈ L.map (fun q => Value.ref q.1), IsTI s.heap v (k v) ∧ k v ≠ [] := fun v hv => by
    obtain ⟨q, hq, rfl⟩ := List.mem_map.mp hv
    rw [hkey q hq]
    exact ⟨isTI_of I (hk q hq).1, (hk q hq).2⟩
  refine sorted_gath (C := fun vs => vs.Perm (L.map fun q => Value.ref q.1)) (swo_lexI k) (fun Rr hR => collect_set (A := X.A.in1) (I.ok.hd hc) ⟨o, ho, hex.1, hd⟩ R.fits (by unfold scanBound; omega) R.tab.ris R.led fun s1 vs k1 hz g1 o1 pm => ?_) (fun vs' h₁ a' hC h2 keep ha s1 hs1 => ?_) fun vs' out s1 s' n hC h1 h2 hz' g1 g2 hg => ?_
  · rw [hes] at pm
    exact hR vs s1 ⟨k1, g1, o1⟩ pm (by rw [pm.length_eq, List.length_map, sizeLine_eq]; omega)
  · refine tups_sortable (by omega) (fun v hv => ?_) fun o e => ?_
    · obtain ⟨h1, h2⟩ := hp v (hC.mem_iff.mp hv)
      exact ⟨h1.keeps fun b o e _ => by rw [hs1]; exact (keep b o e).2, h2⟩
    · rw [hs1, ha] at e
      cases e
      intro c
      exact absurd (Value.type.inj c) (by decide)
  · have pm : out.Perm (L.map fun q => Value.ref q.1) := h2.perm.trans hC
    obtain ⟨L', e', hs'⟩ := ord out fun v hv => by
      obtain ⟨q, hq, e⟩ := List.mem_map.mp (pm.mem_iff.mp hv)
      exact ⟨q, hq, e.symm⟩
    have pL : L'.Perm L := perm_of L' hs' (by rw [← e']; exact pm)
    have pw : L'.Pairwise (fun q r => lexI r.2 q.2 = false) := by
      rw [e'] at h1
      refine List.Pairwise.imp_of_mem (fun {q r} hq hr hle => ?_) (List.pairwise_map.mp h1)
      have hle : lexI (k (.ref r.1)) (k (.ref q.1)) = false := hle
      rw [hkey q (hs' q hq), hkey r (hs' r hr)] at hle
      exact hle
    have I1 := inv_gath I g1
    have hlen : (L'.map fun q => V.ref q.1).length ≤ sizeLine := by rw [List.length_map, pL.length_eq, sizeLine_eq]; omega
    refine ⟨.ref s1.heap.objs.size, _, inv_list I1 g2 hlen (by rw [e']; exact vals_of_refs L') hg, rfl, q R.nd L' _ pL pw (I1.hok.fresh (Nat.le_refl _))⟩
end
/-! ### set(xs), xs a tuple of tuples of ints (as call_set_tups, of a list) -/
section
variable {P : Program} {w : World} {A : Around} {E : Value → Shared → Prop} {s : Shared}
set_option maxHeartbeats 8000000 in
theorem call_set_tupsT {l : Addr} {items : Array Value} (ks : List (Addr × List Int)) {Q : Value → Shared → Prop} (hh : A.handled = none) (hl : IsTup s.heap l items) (hit : items.toList = ks.map fun p => Value.ref p.1)
    (hk : ∀ p ∈ ks, IsT P w s.heap p.2 p.1) (hfew : ks.length < 64) (hu : A.units + 3 < cLine)
    (h : ∀ (h' : Heap) (tk : Nat) L es ep t, SetTR P w h' s.heap.objs.size L es ep t → Got ks ks.length L → (∀ b o, s.heap.get? b = some o → h'.get? b = some o) → Q (.ref s.heap.objs.size) { s with heap := h', toks := tk }) :
    wpAny (model P w) A (call (.type "set") [.ref l]) Q E s := by
  have hisz : items.size = ks.length := by
    have q := congrArg List.length hit
    rw [Array.length_toList, List.length_map] at q
    exact q
  obtain ⟨c, tl, hmro⟩ := F.called_set.mro
  have hmade := F.called_set.made
  have hsub := F.called_set.sub
  refine wpAny_call (codeAny_of_tree ?_)
  show wpAny _ _ (callAny (.type "set") _) _ _ _
  refine wpAny_pure ⟨Code.quiet_builtin _ (by decide +kernel), codeAny_builtin F.entry_type_call ?_⟩
  rw [Around.under_plain (weight_type_call_type "set" [.ref l] []) rfl]
  have h1 := F.called_set.notType
  have h2 := F.called_set.canCreate
  have hct := F.typeCall_set_1 (.ref l)
  repeat (any_goals (first | assumption | wp_step))

  refine codeAny_mono (code_set_led1 (.ref l) (E := E) (Q₁ := fun obj s₁ => obj = .ref s.heap.objs.size ∧ s₁ = { s with heap := s.heap.push { cls := .type "set", dict := none, data := .set #[] 0 (.fresh 0 0 (!w.params.followText "set-order")) } }) ⟨rfl, rfl⟩) fun r s₁ hr => ?_
  cases r with
  | error e => exact hr
  | ok fl =>
    cases fl with
    | ret obj =>
      obtain ⟨rfl, rfl⟩ := hr
      have hS : (s.heap.push { cls := .type "set", dict := none, data := .set #[] 0 (.fresh 0 0 (!w.params.followText "set-order")) }).get? s.heap.objs.size = some { cls := .type "set", dict := none, data := .set #[] 0 (.fresh 0 0 (!w.params.followText "set-order")) } := Heap.get?_push_size _ rfl
      have hT : Shared.TypeIs { s with heap := s.heap.push { cls := .type "set", dict := none, data := .set #[] 0 (.fresh 0 0 (!w.params.followText "set-order")) } } (.ref s.heap.objs.size) "set" := ⟨_, hS, rfl⟩
      have hli := F.called_set.init.lookup
      have hbi := F.called_set.init.bind (.ref s.heap.objs.size)
      repeat (any_goals (first | assumption | wp_step))

      refine codeAny_mono (codeAny_call_builtin (R := wants (fun r s₂ => r = .none ∧ ∃ h' tk L es ep t, s₂ = { s with heap := h', toks := tk } ∧ SetTR P w h' s.heap.objs.size L es ep t ∧ Got ks ks.length L ∧
          (∀ b o, s.heap.get? b = some o → h'.get? b = some o)) E) F.called_set.init.plain F.entry_set_init (check_set_init_1 hT ?_)) fun r₂ s₂ hr₂ => ?_
      · obtain ⟨ol, hol, hcl, nl, hdl⟩ := hl
        obtain ⟨ocls, odict, odata, oslots⟩ := ol
        simp only at hcl hdl
        subst hcl; subst hdl
        have hol' : (s.heap.push { cls := .type "set", dict := none, data := .set #[] 0 (.fresh 0 0 (!w.params.followText "set-order")) }).get? l = some { cls := .type "tuple", dict := odict, data := .seq items nl, slots := oslots } := Heap.get?_push_of_some _ hol
        have hsls := F.sub_tuple_set
        have hslf := F.sub_tuple_frozenset
        have hne : (Value.type "tuple" == Value.type "dict") = false := by decide
        have hl1 : (s.heap.push { cls := .type "set", dict := none, data := .set #[] 0 (.fresh 0 0 (!w.params.followText "set-order")) }).IsTuple l items := ⟨_, hol', rfl, nl, rfl⟩
        unfold Builtin.«set.__init__» noKeywords Builtin.Frozenset.updateFrom
        generalize hPI : pyIter = PI
        wp_walk
        subst hPI

        refine wpAny_pyIter_tuple hl1 ?_
        refine wpAny_bind (wpAny_runValue ?_)
        have hlS : l < s.heap.objs.size := Heap.lt_size hol
        have hh3 : A.in1.in1.in1.handled = none := by simp [hh]
        have hz1 : (s.heap.push { cls := .type "set", dict := none, data := .set #[] 0 (.fresh 0 0 (!w.params.followText "set-order")) }).objs.size = s.heap.objs.size + 1 := Heap.size_push ..
        have hneI : l ≠ (s.heap.push { cls := .type "set", dict := none, data := .set #[] 0 (.fresh 0 0 (!w.params.followText "set-order")) }).objs.size := by
          rw [Heap.size_push]; exact Nat.ne_of_lt (Nat.lt_succ_of_lt hlS)
        have hSf : s.heap.objs.size ∉ [(s.heap.push { cls := .type "set", dict := none, data := .set #[] 0 (.fresh 0 0 (!w.params.followText "set-order")) }).objs.size, l] := by
          rw [Heap.size_push]; simp only [List.mem_cons, List.mem_singleton, List.not_mem_nil, or_false, not_or]
          exact ⟨Nat.ne_of_lt (Nat.lt_succ_self _), Nat.ne_of_gt hlS⟩
        have hval : ∀ (i : Nat) (v : Value), items[i]? = some v → ∃ p, ks[i]? = some p ∧ v = .ref p.1 := fun i v hv => by
          have q : items.toList[i]? = some v := by rw [Array.getElem?_toList]; exact hv
          rw [hit, List.getElem?_map] at q
          cases hq : ks[i]? with
          | none => rw [hq] at q; cases q
          | some p =>
            rw [hq] at q
            exact ⟨p, rfl, (Option.some.inj q).symm⟩
        have none_of : ∀ b, s.heap.objs.size ≤ b → s.heap.get? b = none := fun b hb => by
          cases q : s.heap.get? b with
          | none => rfl
          | some o => exact absurd (Nat.lt_of_lt_of_le (Heap.lt_size q) hb) (Nat.lt_irrefl _)
        refine set_update_tups ((Walks.tuple hh3 _ l hneI items).toS) s.heap.objs.size
          hSf ks hisz hfew hval s.heap hk (none_of _ (Nat.le_refl _)) (fun b hb => none_of b (by
            rw [List.mem_singleton.mp hb, Heap.size_push]
            exact Nat.le_succ _)) hu (items.size - 0) 0 _ (by omega) (Nat.zero_le _)
          ⟨⟨_, Heap.get?_push_size _ rfl, rfl, rfl⟩, (hl1.push _)⟩ (fun b o e => Heap.get?_push_of_some _ (Heap.get?_push_of_some _ e)) ?hS0 ?hR
        case hS0 =>
          have hget : ((s.heap.push { cls := .type "set", dict := none, data := .set #[] 0 (.fresh 0 0 (!w.params.followText "set-order")) }).push { cls := .type "tuple_iterator", data := .fields #[.ref l, .int 0 0] }).get? s.heap.objs.size
              = some { cls := .type "set", dict := none, data := .set #[] 0 (.fresh 0 0 (!w.params.followText "set-order")) } := Heap.get?_push_of_some _ hS
          exact ⟨[], #[], 0, _, setTR_fresh hget, Got.zero ks⟩
        case hR =>
          intro s' L es ep t hm hS' g' hkp
          obtain ⟨h', g2, d', tk', os'⟩ := s'
          have eg : g2 = s.gens := hm.gens
          have ed : d' = s.drawn := hm.drawn
          have eo : os' = s.os := hm.os
          subst eg; subst ed; subst eo
          show wpAny _ _ _ _ _ _
          refine wpAny_pure ?_
          show wpAny _ _ (ret Value.none) _ _ _
          rw [hisz] at g'
          exact wpAny_pure ⟨rfl, h', tk', L, es, ep, t, rfl, hS', g', hkp⟩

      · cases r₂ with
        | error e => exact hr₂
        | ok fl₂ =>
          cases fl₂ with
          | ret r =>
            obtain ⟨rfl, h', tk, L, es, ep, t, rfl, hS', g', hk'⟩ := hr₂
            repeat (any_goals (first | assumption | wp_step))
            exact h _ _ _ _ _ _ hS' g' hk'
          | _ => exact hr₂.elim
    | _ => exact hr.elim
end
section
variable {X : Cx}
/-- set(xs), xs a list or a tuple of tuples of ints -/
def rSetQ (K : PySem.W.Frag) (P : Program) (w : World) : List V → Hp → VK → Prop := fun xs H Q => ∃ (l : Addr) (ks : List (Addr × List Int)), xs = [V.ref l] ∧ (SqL K H l (ks.map fun p => V.ref p.1) ∨ SqT K H l (ks.map fun p => V.ref p.1)) ∧ (∀ p ∈ ks, SqT K H p.1 (p.2.map V.int)) ∧ ks.length < 64 ∧
  ∀ a L, H a = none → (∀ p ∈ L, p ∈ ks) → (∀ p ∈ ks, p.2 ∈ L.map (·.2)) → (L.map (·.2)).Nodup → Q (.ref a) (upd H a (SetTO P w a L))
theorem cr_setQ (hc : X.calm = true) (hu : X.A.units + 64 < cLine) : CallR X (.type "set") (rSetQ X.K X.prog X.w) := by
  intro pins s σ H xs us Q I r h
  obtain ⟨l, ks, rfl, hl, hk, hf, q⟩ := h
  rw [Vals.ref1 r]
  have hn : H s.heap.objs.size = none := I.hok.fresh (Nat.le_refl _)
  have fin : ∀ (h' : Heap) (tk : Nat) L es ep t, SetTR X.prog X.w h' s.heap.objs.size L es ep t → Got ks ks.length L → (∀ b o, s.heap.get? b = some o → h'.get? b = some o) → EP X pins σ Q (.ref s.heap.objs.size) { s with heap := h', toks := tk } := fun h' tk L es ep t R g k => by
    refine ⟨.ref s.heap.objs.size, upd H s.heap.objs.size (SetTO X.prog X.w s.heap.objs.size L), I.laid (t' := tk) k (Nat.le_refl _) (setTO_new R.t0), rfl, q _ L hn (fun p hp => ?_) (fun p hp => ?_) R.nd⟩
    · exact List.mem_of_mem_take (g.sub p hp)
    · exact g.all p (by rw [List.take_length]; exact hp)
  rcases hl with hl | hl
  · obtain ⟨its, rv, pl, hz⟩ := I.list hl
    exact call_set_tups (P := X.prog) (w := X.w) ks (I.ok.hd hc) pl.isList (by simpa using refs_of_vals rv) (fun p hp => I.isT (hk p hp)) hf (by omega) fin
  · obtain ⟨its, rv, pl, hz⟩ := I.tuple hl
    exact call_set_tupsT (P := X.prog) (w := X.w) ks (I.ok.hd hc) pl (by simpa using refs_of_vals rv) (fun p hp => I.isT (hk p hp)) hf (by omega) fin
/-- len(S) -/
def rLenS (K : PySem.W.Frag) (P : Program) (w : World) : List V → Hp → VK → Prop := fun xs H Q => ∃ (a : Addr) (L : List (Addr × List Int)), xs = [V.ref a] ∧ H a = some (SetTO P w a L) ∧ (∀ p ∈ L, SqT K H p.1 (p.2.map V.int)) ∧ Q (.int L.length) H
theorem c_lenS : CallR X (.builtin "len") (rLenS X.K X.prog X.w) := by
  intro pins s σ H xs us Q I r h
  obtain ⟨a, L, rfl, ha, hk, q⟩ := h
  rw [Vals.ref1 r]
  have R0 : SetT0 X.prog X.w s.heap a L := (I.hok a _ ha).1
  obtain ⟨es, ep, t, R⟩ := R0.full fun p hp => I.isT (hk p hp)
  obtain ⟨o, ho, hex, hd⟩ := R.ob
  have hsz := R.size
  have hfew := R.few
  exact call_len_set ho hex hd R.fits (by omega) ⟨.int L.length, H, I.tok _, ⟨_, by rw [hsz]⟩, q⟩
end
end Ev

namespace Ev
open PySem L2 PyProof.Rows SrtO
variable {cA : Nat → Addr} {X : Cx} {a b c e : Expr} {ta tb tc te : TEv} {pos : Pos} {K : PySem.W.Frag}

/-! ### insertion sort -/
def insB {α : Type} (lt : α → α → Bool) (x : α) : List α → List α
  | [] => [x]
  | y :: l => if lt y x then y :: insB lt x l else x :: y :: l
def isort {α : Type} (lt : α → α → Bool) : List α → List α
  | [] => []
  | x :: l => insB lt x (isort lt l)
theorem insB_perm {α : Type} (lt : α → α → Bool) (x : α) : ∀ l : List α, (insB lt x l).Perm (x :: l)
  | [] => List.Perm.refl _
  | y :: l => by
    unfold insB
    split
    · exact (List.Perm.cons y (insB_perm lt x l)).trans (List.Perm.swap x y l)
    · exact List.Perm.refl _
theorem isort_perm {α : Type} (lt : α → α → Bool) : ∀ l : List α, (isort lt l).Perm l
  | [] => List.Perm.refl _
  | x :: l => (insB_perm lt x _).trans (List.Perm.cons x (isort_perm lt l))
theorem insB_srtd {α : Type} {lt : α → α → Bool} (O : Swo lt) (x : α) : ∀ {l : List α}, Srtd lt l → Srtd lt (insB lt x l)
  | [], _ => List.pairwise_singleton _ _
  | y :: l, h => by
    have h1 := List.pairwise_cons.mp h
    unfold insB
    split
    · rename_i hc
      refine List.pairwise_cons.mpr ⟨fun z hz => ?_, insB_srtd O x h1.2⟩
      rcases List.mem_cons.mp ((insB_perm lt x l).mem_iff.mp hz) with e | hz
      · rw [e]; exact O.asym _ _ hc
      · exact h1.1 z hz
    · rename_i hc
      have hc : lt y x = false := by simpa using hc
      refine List.pairwise_cons.mpr ⟨fun z hz => ?_, h⟩
      rcases List.mem_cons.mp hz with e | hz
      · rw [e]; exact hc
      · exact O.tr x y z hc (h1.1 z hz)
theorem isort_srtd {α : Type} {lt : α → α → Bool} (O : Swo lt) : ∀ l : List α, Srtd lt (isort lt l)
  | [] => List.Pairwise.nil
  | x :: l => insB_srtd O x (isort_srtd O l)
theorem insB_cls {α : Type} {lt : α → α → Bool} (O : Swo lt) (x z : α) : ∀ l : List α, (insB lt x l).filter (eqv lt z) = (x :: l).filter (eqv lt z)
  | [] => rfl
  | y :: l => by
    unfold insB
    split
    · rename_i hc
      have ih := insB_cls O x z l
      rw [List.filter_cons, ih, List.filter_cons (x := x), List.filter_cons (x := x), List.filter_cons (x := y)]
      by_cases e1 : eqv lt z y = true
      · by_cases e2 : eqv lt z x = true
        · exfalso
          have a1 := eqv_iff.mp e1
          have a2 := eqv_iff.mp e2
          have b1 := O.ltle hc a2.1
          rw [a1.2] at b1
          cases b1
        · rw [if_neg e2, if_neg e2]
      · rw [if_neg e1, if_neg e1]
    · rfl
theorem isort_stb {α : Type} {lt : α → α → Bool} (O : Swo lt) : ∀ l : List α, Stb lt (isort lt l) l
  | [] => Stb.refl _
  | x :: l => ⟨isort_perm lt _, fun z => by
    have ih := (isort_stb O l).cls z
    show (insB lt x (isort lt l)).filter (eqv lt z) = _
    rw [insB_cls O, List.filter_cons, List.filter_cons, ih]⟩
theorem isort_uniq {α : Type} {lt : α → α → Bool} (O : Swo lt) {l m : List α} (h1 : Srtd lt m) (h2 : Stb lt m l) : m = isort lt l :=
  stb_uniq O h1 (isort_srtd O l) ⟨h2.perm.trans (isort_stb O l).perm.symm, fun x => (h2.cls x).trans ((isort_stb O l).cls x).symm⟩
/-- two lists, item by item -/
inductive Two {α β : Type} (R : α → β → Prop) : List α → List β → Prop
  | nil : Two R [] []
  | cons {x y l m} (h : R x y) (t : Two R l m) : Two R (x :: l) (y :: m)
theorem insB_two {α β : Type} {R : α → β → Prop} {lt : α → α → Bool} {lu : β → β → Bool} (h : ∀ x y u v, R x u → R y v → lt x y = lu u v) {x : α} {u : β} (hx : R x u) : ∀ {l : List α} {m : List β}, Two R l m → Two R (insB lt x l) (insB lu u m)
  | _, _, .nil => .cons hx .nil
  | y :: l, v :: m, .cons hy t => by
    unfold insB
    rw [h y x v u hy hx]
    split
    · exact .cons hy (insB_two h hx t)
    · exact .cons hx (.cons hy t)
theorem isort_two {α β : Type} {R : α → β → Prop} {lt : α → α → Bool} {lu : β → β → Bool} (h : ∀ x y u v, R x u → R y v → lt x y = lu u v) : ∀ {l : List α} {m : List β}, Two R l m → Two R (isort lt l) (isort lu m)
  | _, _, .nil => .nil
  | _, _, .cons hx t => insB_two h hx (isort_two h t)
/-! ### tuples of ints as values -/
def tupD (ns : List Int) : D := .tup (ns.map D.int)
def tupsOf : List D → Option (List (List Int))
  | [] => some []
  | .tup ds :: l => match toInts ds with
    | some ns => match tupsOf l with
      | some ms => some (ns :: ms)
      | none => none
    | none => none
  | _ :: _ => none
def iV : V → Int
  | .int i => i
  | _ => 0
def kTup : Option HO → List Int
  | some (.tup us) => us.map iV
  | _ => []
def kOf (F : Hp) : V → List Int
  | .ref t => kTup (F t)
  | _ => []
theorem kOf_eq {F : Hp} {t : Addr} {ns : List Int} (h : F t = some (.tup (ns.map V.int))) : kOf F (.ref t) = ns := by
  show kTup (F t) = ns
  rw [h]
  show (ns.map V.int).map iV = ns
  rw [List.map_map]
  have : (iV ∘ V.int) = (id : Int → Int) := rfl
  rw [this, List.map_id]
/-- a value that is the frozen tuple of the ints -/
def TIs (F : Hp) (ns : List Int) (v : V) : Prop := ∃ t, v = .ref t ∧ F t = some (.tup (ns.map V.int))
theorem TIs.k {F : Hp} {ns : List Int} {v : V} (h : TIs F ns v) : kOf F v = ns := by
  obtain ⟨t, rfl, e⟩ := h
  exact kOf_eq e
theorem ints_rel {ast : Addr} {F : Hp} : ∀ ns : List Int, RelDs cA ast F (ns.map D.int) (ns.map V.int)
  | [] => RelDs.nil
  | n :: ns => ⟨.int n, ns.map V.int, rfl, rfl, ints_rel ns⟩
theorem TIs.rel {ast : Addr} {F : Hp} {ns : List Int} {v : V} (h : TIs F ns v) : RelD cA ast F (tupD ns) v := by
  obtain ⟨t, rfl, e⟩ := h
  exact ⟨t, _, rfl, e, ints_rel ns⟩
theorem two_rel {ast : Addr} {F : Hp} : ∀ {ms : List (List Int)} {vs : List V}, Two (TIs F) ms vs → RelDs cA ast F (ms.map tupD) vs
  | _, _, .nil => RelDs.nil
  | _, _, .cons h t => RelDs.cons h.rel (two_rel t)
theorem tupsOf_two {ast : Addr} {F : Hp} : ∀ {ds : List D} {ms : List (List Int)} {vs : List V}, tupsOf ds = some ms → RelDs cA ast F ds vs → Two (TIs F) ms vs
  | [], ms, vs, e, r => by cases r; simp only [tupsOf] at e; cases e; exact .nil
  | d :: ds, ms, vs, e, r => by
    obtain ⟨v, us, rfl, r1, r2⟩ := r
    cases d with
    | tup es =>
      simp only [tupsOf] at e
      split at e
      · rename_i ns e1
        split at e
        · rename_i ms' e2
          cases e
          obtain ⟨t, ws, rfl, ht, r3⟩ := r1
          obtain ⟨h1, _⟩ := toInts_vals e1 r3
          rw [h1] at ht
          exact .cons ⟨t, rfl, ht⟩ (tupsOf_two e2 r2)
        · cases e
      · cases e
    | _ => simp [tupsOf] at e
theorem Two.mem {α β : Type} {R : α → β → Prop} : ∀ {l : List α} {m : List β}, Two R l m → ∀ y ∈ m, ∃ x ∈ l, R x y
  | _, _, .cons h t, y, hy => by
    rcases List.mem_cons.mp hy with e | hy
    · subst e; exact ⟨_, List.mem_cons_self, h⟩
    · obtain ⟨x, hx, r⟩ := t.mem y hy
      exact ⟨x, List.mem_cons_of_mem _ hx, r⟩
theorem Two.len {α β : Type} {R : α → β → Prop} : ∀ {l : List α} {m : List β}, Two R l m → l.length = m.length
  | _, _, .nil => rfl
  | _, _, .cons _ t => by simp [t.len]
/-- none is empty -/
def full : List (List Int) → Bool
  | [] => true
  | [] :: _ => false
  | (_ :: _) :: l => full l
theorem full_mem : ∀ {ms : List (List Int)}, full ms = true → ∀ m ∈ ms, m ≠ []
  | [], _, m, hm => absurd hm (by simp)
  | [] :: _, h, _, _ => by simp [full] at h
  | (x :: xs) :: l, h, m, hm => by
    rcases List.mem_cons.mp hm with e | hm
    · rw [e]; simp
    · exact full_mem (ms := l) (by simpa [full] using h) m hm
/-- sorted, of a list's or a tuple's items -/
def ltI (x y : Int) : Bool := decide (x < y)
theorem swo_ltI : Swo ltI := ⟨fun x y h => by
  have a := of_decide_eq_true (p := x < y) h
  exact decide_eq_false (p := y < x) (by omega), fun x y z h1 h2 => by
  have a := of_decide_eq_false (p := y < x) h1
  have b := of_decide_eq_false (p := z < y) h2
  exact decide_eq_false (p := z < x) (by omega)⟩
theorem swo_lex0 : Swo lexI := ⟨fun x y h => lexI_asym _ _ h, fun x y z h1 h2 => lexI_tr _ _ _ h1 h2⟩
theorem srt_ints : ∀ {l m : List Int}, l.Pairwise (· ≤ ·) → m.Pairwise (· ≤ ·) → l.Perm m → l = m
  | [], m, _, _, h => (List.Perm.eq_nil h.symm).symm
  | x :: l, [], _, _, h => absurd h.length_eq (by simp)
  | x :: l, y :: m, hl, hm, h => by
    have h1 := List.pairwise_cons.mp hl
    have h2 := List.pairwise_cons.mp hm
    have a : x ≤ y := by
      rcases List.mem_cons.mp (h.mem_iff.mpr (List.mem_cons_self (a := y) (l := m))) with e | z
      · omega
      · exact h1.1 y z
    have b : y ≤ x := by
      rcases List.mem_cons.mp (h.mem_iff.mp (List.mem_cons_self (a := x) (l := l))) with e | z
      · omega
      · exact h2.1 x z
    have e : x = y := by omega
    subst e
    rw [srt_ints h1.2 h2.2 h.cons_inv]
theorem isort_le (l : List Int) : (isort ltI l).Pairwise (· ≤ ·) := (isort_srtd swo_ltI l).imp fun {x y} h => by
  have := of_decide_eq_false (p := y < x) h
  omega
def sortDs (ds : List D) : Option D := match toInts ds with
  | some ns => some (.lst ((isort ltI ns).map D.int))
  | none => match tupsOf ds with
    | some ms => if full ms then some (.lst ((isort lexI ms).map tupD)) else none
    | none => none
def tupKeys : List (List Key) → Option (List (List Int))
  | [] => some []
  | ks :: l => match toKInts ks with
    | some ns => match tupKeys l with
      | some ms => some (ns :: ms)
      | none => none
    | none => none
where toKInts : List Key → Option (List Int)
  | [] => some []
  | .inl i :: l => match toKInts l with
    | some ns => some (i :: ns)
    | none => none
  | .inr _ :: _ => none
theorem toKInts_eq : ∀ {ks : List Key} {ns : List Int}, tupKeys.toKInts ks = some ns → ks.map kV = ns.map V.int
  | [], ns, e => by simp only [tupKeys.toKInts] at e; cases e; rfl
  | .inl i :: l, ns, e => by
    simp only [tupKeys.toKInts] at e
    split at e
    · rename_i ms e1
      cases e
      rw [List.map_cons, List.map_cons, toKInts_eq e1]
      rfl
    · cases e
  | .inr _ :: l, ns, e => by simp [tupKeys.toKInts] at e
def fSorted : D → Option D
  | .lst ds => sortDs ds
  | .tup ds => sortDs ds
  | .dic true ks _ => if few ks.length then match tupKeys ks with
    | some ms => if full ms then some (.lst ((isort lexI ms).map tupD)) else none
    | none => none else none
  | _ => none

/-! ### a tuple that stands is frozen -/
theorem SR.coolT {ast F0 H0 F ξ H env w} (I : SR cA ast F0 H0 F ξ H env w) {p : Addr} {us : List V} (hp : H p = some (.tup us)) : ∃ F', SR cA ast F0 H0 F' ξ H env w ∧ Sub F F' ∧ F' p = some (.tup us) := by
  cases q : F p with
  | some o =>
    have := I.so.sub _ _ q
    rw [hp] at this
    cases this
    exact ⟨F, I, Sub.rfl', q⟩
  | none =>
    have sb : Sub F (upd F p (.tup us)) := Sub.upd q
    have pa : p ≠ ast := fun e => by subst e; rw [I.so.hst] at hp; cases hp
    refine ⟨upd F p (.tup us), I.step ⟨sb, fun a u n h => h, fun a h => ?_⟩ ⟨fun a u h => ?_, by rw [upd_ne pa.symm]; exact I.so.fst, I.so.hst⟩, sb, upd_same⟩
    · by_cases e : a = p
      · exact .inr (.inr ⟨us, by rw [e]; exact hp⟩)
      · rw [upd_ne e] at h; exact .inl h
    · by_cases e : a = p
      · subst e; rw [upd_same] at h; cases h; exact hp
      · rw [upd_ne e] at h; exact I.so.sub _ _ h
theorem Two.up {F F' : Hp} (s : Sub F F') : ∀ {ms : List (List Int)} {vs : List V}, Two (TIs F) ms vs → Two (TIs F') ms vs
  | _, _, .nil => .nil
  | _, _, .cons ⟨t, e, h⟩ r => .cons ⟨t, e, s _ _ h⟩ (Two.up s r)
theorem SR.coolTs {ast F0 H0 ξ H env w} : ∀ {F : Hp} {bs : List Addr} {ms : List (List Int)}, SR cA ast F0 H0 F ξ H env w → Two (fun (m : List Int) b => H b = some (.tup (m.map V.int))) ms bs →
    ∃ F', SR cA ast F0 H0 F' ξ H env w ∧ Sub F F' ∧ Two (TIs F') ms (bs.map V.ref)
  | F, _, _, I, .nil => ⟨F, I, Sub.rfl', .nil⟩
  | F, _, _, I, .cons h t => by
    obtain ⟨F1, I1, s1, h1⟩ := I.coolT h
    obtain ⟨F2, I2, s2, t2⟩ := SR.coolTs I1 t
    exact ⟨F2, I2, s1.trans s2, .cons ⟨_, rfl, s2 _ _ h1⟩ t2⟩
theorem two_lt {F : Hp} : ∀ (x y : List Int) (u v : V), TIs F x u → TIs F y v → lexI x y = lexI (kOf F u) (kOf F v) := fun x y u v h1 h2 => by rw [h1.k, h2.k]
def rSrt (K : PySem.W.Frag) : List V → Hp → VK → Prop := fun xs H Q => (rSrtT K xs H Q ∨ rSrtI K xs H Q) ∨ rSrtD xs H Q
theorem cr_srt (hc : X.calm = true) : CallR X (.builtin "sorted") (rSrt X.K) := (cr_srtT.or cr_srtI).or (cr_srtD hc)
theorem keys_two {H : Hp} : ∀ {kvs : List (List Key × V)} {bs : List Addr} {ms : List (List Int)}, IsKeys H kvs bs → tupKeys (kvs.map (·.1)) = some ms → Two (fun (m : List Int) b => H b = some (.tup (m.map V.int))) ms bs
  | [], _, ms, .nil, e => by simp only [List.map_nil, tupKeys] at e; cases e; exact .nil
  | kv :: kvs, _, ms, .cons h t, e => by
    simp only [List.map_cons, tupKeys] at e
    split at e
    · rename_i ns e1
      split at e
      · rename_i ms' e2
        cases e
        rw [toKInts_eq e1] at h
        exact .cons h (keys_two t e2)
      · cases e
    · cases e
theorem c_sorted : Call1 cA (rSrt K) fSorted := fun ast F0 H0 F ξ H env w dx d x Q I r e k => by
  have seq : ∀ {a : Addr} {ds : List D} {vs : List V}, (SqL K H a vs ∨ SqT K H a vs) → RelDs cA ast F ds vs → sortDs ds = some d → rSrt K [.ref a] H Q := fun {a ds vs} hs rs e => by
    unfold sortDs at e
    split at e
    · rename_i ns e1
      cases e
      obtain ⟨h1, _⟩ := toInts_vals e1 rs
      subst h1
      refine .inl (.inr ⟨a, ns, rfl, hs, fun ns' p pm pw hp => ?_⟩)
      have en : ns' = isort ltI ns := srt_ints pw (isort_le ns) (pm.trans (isort_perm ltI ns).symm)
      have sb := Sub.upd (F := F) (p := p) (o := .lst (ns'.map V.int)) (I.so.sub.none hp)
      refine k _ _ _ (I.alloc hp) sb ⟨p, _, rfl, upd_same, ?_⟩
      rw [en]
      exact (ints_rel _)
    · split at e
      · rename_i ms e1
        split at e
        · rename_i hf
          cases e
          have tw := tupsOf_two e1 rs
          refine .inl (.inl ⟨a, vs, kOf F, rfl, hs, fun y hy => ?_, fun ys p h1 h2 hp => ?_⟩)
          · obtain ⟨m, hm, ht⟩ := tw.mem y hy
            have hk := ht.k
            obtain ⟨t, rfl, h3⟩ := ht
            rw [hk]
            exact ⟨t, rfl, SqT.of (I.so.sub _ _ h3), full_mem hf m hm⟩
          · have en := isort_uniq (swo_lexV (kOf F)) h1 h2
            have tw2 : Two (TIs F) (isort lexI ms) ys := by rw [en]; exact isort_two two_lt tw
            have sb := Sub.upd (F := F) (p := p) (o := .lst ys) (I.so.sub.none hp)
            exact k _ _ _ (I.alloc hp) sb ⟨p, ys, rfl, upd_same, (two_rel tw2).mono sb⟩
        · cases e
      · cases e
  cases dx with
  | lst ds =>
    obtain ⟨a, vs, rfl, h, rs⟩ := r
    exact seq (.inl (SqL.of h)) rs e
  | tup ds =>
    obtain ⟨a, vs, rfl, h, rs⟩ := r
    exact seq (.inr (SqT.of (I.so.sub _ _ h))) rs e
  | dic t ks ds =>
    cases t with
    | false => cases e
    | true =>
      simp only [fSorted] at e
      split at e
      · rename_i hfew
        split at e
        · rename_i ms e1
          split at e
          · rename_i hf
            cases e
            obtain ⟨a, rfl, kvs, h, rfl, rs⟩ := r
            refine .inr ⟨a, kvs, rfl, h, by rw [List.length_map] at hfew; exact few_line hfew, fun bs hb => ?_⟩
            have tw0 := keys_two hb e1
            obtain ⟨F1, I1, s1, tw⟩ := SR.coolTs I tw0
            refine ⟨kOf F1, fun b hb => ?_, fun ys p h1 h2 hp => ?_⟩
            · obtain ⟨m, hm, ht⟩ := tw.mem (V.ref b) (List.mem_map.mpr ⟨b, hb, rfl⟩)
              have hk := ht.k
              obtain ⟨t, et, h3⟩ := ht
              cases et
              rw [hk]
              exact ⟨I1.so.sub _ _ h3, full_mem hf m hm⟩
            · have en := isort_uniq (swo_lexV (kOf F1)) h1 h2
              have tw2 : Two (TIs F1) (isort lexI ms) ys := by rw [en]; exact isort_two two_lt tw
              have sb := Sub.upd (F := F1) (p := p) (o := .lst ys) (I1.so.sub.none hp)
              exact k _ _ _ (I1.alloc hp) (s1.trans sb) ⟨p, ys, rfl, upd_same, (two_rel tw2).mono sb⟩
          · cases e
        · cases e
      · cases e
  | _ => cases e
/-! ### sets of tuples of ints -/
def insU (x : List Int) : List (List Int) → List (List Int)
  | [] => [x]
  | y :: l => if lexI y x then y :: insU x l else if x = y then y :: l else x :: y :: l
def usort : List (List Int) → List (List Int)
  | [] => []
  | x :: l => insU x (usort l)
abbrev Strict (l : List (List Int)) : Prop := l.Pairwise fun x y => lexI x y = true
theorem lexI_total : ∀ x y : List Int, lexI x y = false → lexI y x = false → x = y
  | [], [], _, _ => rfl
  | [], _ :: _, h, _ => by simp [lexI] at h
  | _ :: _, [], _, h => by simp [lexI] at h
  | x :: xs, y :: ys, h1, h2 => by
    simp only [lexI] at h1 h2
    by_cases e : x = y
    · rw [if_pos e] at h1
      rw [if_pos e.symm] at h2
      rw [e, lexI_total xs ys h1 h2]
    · rw [if_neg e] at h1
      rw [if_neg (Ne.symm e)] at h2
      have a := of_decide_eq_false h1
      have b := of_decide_eq_false h2
      exact absurd (by omega) e
theorem insU_mem (x z : List Int) : ∀ l, z ∈ insU x l ↔ z = x ∨ z ∈ l
  | [] => by simp [insU]
  | y :: l => by
    unfold insU
    split
    · rw [List.mem_cons, insU_mem x z l, List.mem_cons]
      constructor <;> (intro h; rcases h with h | h | h <;> simp [h])
    · split
      · rename_i e
        subst e
        rw [List.mem_cons]
        constructor
        · exact fun h => .inr h
        · intro h
          rcases h with h | h
          · exact .inl h
          · exact h
      · rw [List.mem_cons]
theorem insU_strict (x : List Int) : ∀ {l}, Strict l → Strict (insU x l)
  | [], _ => List.pairwise_singleton _ _
  | y :: l, h => by
    have h1 := List.pairwise_cons.mp h
    unfold insU
    split
    · rename_i hc
      refine List.pairwise_cons.mpr ⟨fun z hz => ?_, insU_strict x h1.2⟩
      rcases (insU_mem x z l).mp hz with e | hz
      · rw [e]; exact hc
      · exact h1.1 z hz
    · rename_i hc
      have hc : lexI y x = false := by simpa using hc
      split
      · exact h
      · rename_i hn
        have hxy : lexI x y = true := by
          cases q : lexI x y with
          | true => rfl
          | false => exact absurd (lexI_total _ _ q hc) hn
        refine List.pairwise_cons.mpr ⟨fun z hz => ?_, h⟩
        rcases List.mem_cons.mp hz with e | hz
        · rw [e]; exact hxy
        · exact swo_lex0.lelt (lexI_asym _ _ hxy) (h1.1 z hz)
theorem usort_mem (z : List Int) : ∀ l, z ∈ usort l ↔ z ∈ l
  | [] => by simp [usort]
  | x :: l => by
    show z ∈ insU x (usort l) ↔ _
    rw [insU_mem, usort_mem z l, List.mem_cons]
theorem usort_strict : ∀ l, Strict (usort l)
  | [] => List.Pairwise.nil
  | x :: l => insU_strict x (usort_strict l)
theorem strict_irr {x : List Int} : ¬ lexI x x = true := by rw [swo_lex0.refl x]; exact Bool.false_ne_true
theorem strict_eq : ∀ {l m : List (List Int)}, Strict l → Strict m → (∀ z, z ∈ l ↔ z ∈ m) → l = m
  | [], [], _, _, _ => rfl
  | [], y :: m, _, _, h => absurd ((h y).mpr List.mem_cons_self) (by simp)
  | x :: l, [], _, _, h => absurd ((h x).mp List.mem_cons_self) (by simp)
  | x :: l, y :: m, hl, hm, h => by
    have h1 := List.pairwise_cons.mp hl
    have h2 := List.pairwise_cons.mp hm
    have e : x = y := by
      rcases List.mem_cons.mp ((h x).mp List.mem_cons_self) with e | a
      · exact e
      · rcases List.mem_cons.mp ((h y).mpr List.mem_cons_self) with e | b
        · exact e.symm
        · exfalso
          have c1 := h2.1 x a
          have c2 := h1.1 y b
          rw [lexI_asym _ _ c1] at c2
          cases c2
    subst e
    have nx : x ∉ l := fun z => strict_irr (h1.1 x z)
    have ny : x ∉ m := fun z => strict_irr (h2.1 x z)
    rw [strict_eq h1.2 h2.2 fun z => ?_]
    have hz := h z
    rw [List.mem_cons, List.mem_cons] at hz
    constructor
    · intro zl
      rcases hz.mp (.inr zl) with e | r
      · exact absurd (e ▸ zl) nx
      · exact r
    · intro zm
      rcases hz.mpr (.inr zm) with e | r
      · exact absurd (e ▸ zm) ny
      · exact r
theorem pairs_of {F : Hp} : ∀ {ms : List (List Int)} {vs : List V}, Two (TIs F) ms vs → ∃ ks : List (Addr × List Int), vs = ks.map (fun p => V.ref p.1) ∧ ms = ks.map (·.2) ∧ ∀ p ∈ ks, F p.1 = some (.tup (p.2.map V.int))
  | _, _, .nil => ⟨[], rfl, rfl, fun p hp => absurd hp (by simp)⟩
  | _, _, .cons (x := m) ⟨t, e, h⟩ r => by
    obtain ⟨ks, e1, e2, h2⟩ := pairs_of r
    refine ⟨(t, m) :: ks, by rw [e, e1]; rfl, by rw [e2]; rfl, fun p hp => ?_⟩
    rcases List.mem_cons.mp hp with q | hp
    · rw [q]; exact h
    · exact h2 p hp
theorem pairs_two {F : Hp} : ∀ {ks : List (Addr × List Int)}, (∀ p ∈ ks, F p.1 = some (.tup (p.2.map V.int))) → Two (TIs F) (ks.map (·.2)) (ks.map fun p => V.ref p.1)
  | [], _ => .nil
  | p :: ks, h => .cons ⟨p.1, rfl, h p List.mem_cons_self⟩ (pairs_two fun q hq => h q (List.mem_cons_of_mem _ hq))
def few64 (n : Nat) : Bool := Nat.blt n 64
def itemsOf : D → Option (List D)
  | .lst ds => some ds
  | .tup ds => some ds
  | _ => none
def fSortSet (d : D) : Option D := match itemsOf d with
  | some ds => match tupsOf ds with
    | some ms => if few64 ms.length && full ms then some (.lst ((usort ms).map tupD)) else none
    | none => none
  | none => none
def fLenSet (d : D) : Option D := match itemsOf d with
  | some ds => match tupsOf ds with
    | some ms => if few64 ms.length then some (.int (usort ms).length) else none
    | none => none
  | none => none
theorem itemsOf_at {ast F0 H0 F ξ H env w} (I : SR cA ast F0 H0 F ξ H env w) {d : D} {ds : List D} {x : V} (e : itemsOf d = some ds) (r : RelB cA ast F H d x) : ∃ a vs, x = .ref a ∧ (SqL K H a vs ∨ SqT K H a vs) ∧ RelDs cA ast F ds vs := by
  cases d with
  | lst es => cases e; obtain ⟨a, vs, rfl, h, rs⟩ := r; exact ⟨a, vs, rfl, .inl (SqL.of h), rs⟩
  | tup es => cases e; obtain ⟨a, vs, rfl, h, rs⟩ := r; exact ⟨a, vs, rfl, .inr (SqT.of (I.so.sub _ _ h)), rs⟩
  | _ => cases e
theorem rset_of {ast F0 H0 F ξ H env w} (I : SR cA ast F0 H0 F ξ H env w) {d : D} {ds : List D} {ms : List (List Int)} {x : V} {Q : VK} (e : itemsOf d = some ds) (e1 : tupsOf ds = some ms) (hf : few64 ms.length = true) (r : RelB cA ast F H d x)
    (k : ∀ F' H' a (L : List (Addr × List Int)), SR cA ast F0 H0 F' ξ H' env w → Sub F F' → H' a = some (SetTO X.prog X.w a L) → (∀ p ∈ L, F' p.1 = some (.tup (p.2.map V.int)) ∧ p.2 ∈ ms) → (L.map (·.2)).Nodup → (∀ m, m ∈ L.map (·.2) ↔ m ∈ ms) → Q (.ref a) H') : rSetQ X.K X.prog X.w [x] H Q := by
  obtain ⟨a, vs, rfl, hs, rs⟩ := itemsOf_at (K := X.K) I e r
  obtain ⟨ks, rfl, rfl, hk⟩ := pairs_of (tupsOf_two e1 rs)
  rw [List.length_map] at hf
  refine ⟨a, ks, rfl, hs, fun p hp => SqT.of (I.so.sub _ _ (hk p hp)), (Nat.blt_eq.mp hf), fun b L hb h1 h2 h3 => ?_⟩
  have sb := Sub.upd (F := F) (p := b) (o := SetTO X.prog X.w b L) (I.so.sub.none hb)
  refine k _ _ b L (I.alloc hb) sb upd_same (fun p hp => ⟨sb _ _ (hk p (h1 p hp)), List.mem_map.mpr ⟨p, h1 p hp, rfl⟩⟩) h3 fun m => ⟨fun hm => ?_, fun hm => ?_⟩
  · obtain ⟨p, hp, rfl⟩ := List.mem_map.mp hm
    exact List.mem_map.mpr ⟨p, h1 p hp, rfl⟩
  · obtain ⟨p, hp, rfl⟩ := List.mem_map.mp hm
    exact h2 p hp
theorem pE_sortSet {p p2 q : Pos} (hc : X.calm = true) (hu : X.A.units + 64 < cLine) (hg : Gl X "sorted") (hm : X.mg "sorted" = none) (hg2 : Gl X "set") (hm2 : X.mg "set" = none) (ha : PE X a (rdB cA ta))
    (hs : starEach [a] X.env = [(false, eval a X.env)] := by rfl) : PE X (.Call (.Name "sorted" p) [.Call (.Name "set" p2) [a] [] q] [] pos) (rdE cA (evUn fSortSet ta)) :=
  PE.imp (pe_callB (cr_srtS hc) hg hm PyProof.Rows.boot_sorted (pa_cons (pe_callTy (cr_setQ hc hu) hg2 hm2 PyProof.Rows.boot_set (pa_cons ha pa_nil hs) (by decide) (by decide) hs) pa_nil)) fun σ H Q ⟨ast, F0, H0, F, τ, env, w, d, env', w', I, ee, k⟩ => by
    obtain ⟨y, e1, e2⟩ := evUn_some ee
    unfold fSortSet at e2
    split at e2
    · rename_i ds e3
      split at e2
      · rename_i ms e4
        split at e2
        · rename_i hf
          rw [Bool.and_eq_true] at hf
          cases e2
          refine rdB_mk I e1 fun F1 H1 v1 I1 s1 r1 => ?_
          show rSetQ X.K X.prog X.w [v1] H1 (fun x H2 => rSrtS X.K X.prog X.w [x] H2 Q)
          refine rset_of (X := X) I1 e3 e4 hf.1 r1 fun F2 H2 b L I2 s2 hb hL nd hm => ?_
          refine ⟨b, L, rfl, hb, fun p hp => ⟨SqT.of (I2.so.sub _ _ (hL p hp).1), full_mem hf.2 _ (hL p hp).2⟩, fun _ L' p pm pw hp => ?_⟩
          have tw : Two (TIs F2) (L'.map (·.2)) (L'.map fun q => V.ref q.1) := pairs_two fun q hq => (hL q (pm.mem_iff.mp hq)).1
          have nd' : (L'.map (·.2)).Nodup := ((pm.map (·.2)).nodup_iff).mpr nd
          have st : Strict (L'.map (·.2)) := by
            refine List.pairwise_map.mpr ((List.pairwise_map.mp nd').imp₂ (fun {q r} hne hle => ?_) pw)
            cases z : lexI q.2 r.2 with
            | true => rfl
            | false => exact absurd (lexI_total _ _ z hle) hne
          have en : L'.map (·.2) = usort ms := strict_eq st (usort_strict ms) fun z => by rw [usort_mem, ← hm z, (pm.map (·.2)).mem_iff]
          rw [en] at tw
          have sb := Sub.upd (F := F2) (p := p) (o := .lst (L'.map fun q => V.ref q.1)) (I2.so.sub.none hp)
          exact k _ _ _ (I2.alloc hp) ((s1.trans s2).trans sb) ⟨p, _, rfl, upd_same, (two_rel tw).mono sb⟩
        · cases e2
      · cases e2
    · cases e2
theorem pE_lenSet {p p2 q : Pos} (hc : X.calm = true) (hu : X.A.units + 64 < cLine) (hg : Gl X "len") (hm : X.mg "len" = none) (hg2 : Gl X "set") (hm2 : X.mg "set" = none) (ha : PE X a (rdB cA ta))
    (hs : starEach [a] X.env = [(false, eval a X.env)] := by rfl) : PE X (.Call (.Name "len" p) [.Call (.Name "set" p2) [a] [] q] [] pos) (rdE cA (evUn fLenSet ta)) :=
  PE.imp (pe_callB c_lenS hg hm PySem.boot_len (pa_cons (pe_callTy (cr_setQ hc hu) hg2 hm2 PyProof.Rows.boot_set (pa_cons ha pa_nil hs) (by decide) (by decide) hs) pa_nil)) fun σ H Q ⟨ast, F0, H0, F, τ, env, w, d, env', w', I, ee, k⟩ => by
    obtain ⟨y, e1, e2⟩ := evUn_some ee
    unfold fLenSet at e2
    split at e2
    · rename_i ds e3
      split at e2
      · rename_i ms e4
        split at e2
        · rename_i hf
          cases e2
          refine rdB_mk I e1 fun F1 H1 v1 I1 s1 r1 => ?_
          show rSetQ X.K X.prog X.w [v1] H1 (fun x H2 => rLenS X.K X.prog X.w [x] H2 Q)
          refine rset_of (X := X) I1 e3 e4 hf r1 fun F2 H2 b L I2 s2 hb hL nd hm => ?_
          refine ⟨b, L, rfl, hb, fun p hp => SqT.of (I2.so.sub _ _ (hL p hp).1), k _ _ _ I2 (s1.trans s2) ?_⟩
          have nd2 : (usort ms).Nodup := (usort_strict ms).imp fun {x y} h e => by rw [e] at h; exact strict_irr h
          have pm : (L.map (·.2)).Perm (usort ms) := (List.perm_ext_iff_of_nodup nd nd2).mpr fun z => by rw [usort_mem, hm z]
          have el := pm.length_eq
          rw [List.length_map] at el
          rw [el]
          rfl
        · cases e2
      · cases e2
    · cases e2
end Ev

namespace Ev
open PySem L2 PySem.Spec PyProof.Rows
open AutoSeq1 (wpAny_loadPart')
variable {cA : Nat → Addr} {X : Cx} {a b c e : Expr} {ta tb tc te : TEv} {pos : Pos} {K : PySem.W.Frag}

/-! ### == by an own __eq__ -/
structure EqOk (K : PySem.W.Frag) (C f : Addr) : Prop where
  eq : PySem.W.findIn K (.ref C) "__eq__" = some (some (.ref f))
  fn : PySem.W.isFn K (.ref f) = true
  r0 : PySem.W.subIn K (.ref C) (.type "NoneType") = some false
  r2 : PySem.W.subIn K (.ref C) (.type "int") = some false
  r3 : PySem.W.subIn K (.ref C) (.type "str") = some false
  r4 : PySem.W.subIn K (.ref C) (.type "tuple") = some false
theorem sub_of_kit {t : String} {C : Addr} (h : PySem.W.kitOne K (.type t) (.ref C) = some false) : PySem.W.subIn K (.type t) (.ref C) = some false := by
  unfold PySem.W.kitOne at h
  split at h
  · cases h
  · simp only [PySem.W.kitCls] at h
    split at h
    · exact h
    · cases h
/-- calling the own __eq__ -/
theorem eq_call {k : Nat} {f : Addr} {fd : FuncData} {ps : List Str} {sp : Sp} {pins : List (Addr × Obj)} {σ : L2.St} {H : Hp} {s : Shared} {x y : V} {u v : Value} {Q : VK}
    (F : FnOk X.prog X.w X.K X.mg X.base CX0 k f fd ps sp) (hb : Binds X.K fd ps []) (hr : Room k X.A) (I : Inv X pins σ H s) (rx : RelV x u) (ry : RelV y v)
    (hsp : sp [x, y] H (fun z H' => ∃ b, z = .bl b ∧ Q (.bl b) H') E0) :
    wpAny (model X.prog X.w) X.A (call (.ref f) [u, v]) (fun r s' => (∃ b, r = .bool b) ∧ EP X pins σ Q r s') X.xe s := by
  have hl := F.len _ _ _ _ hsp
  have r2 : Vals [x, y] [u, v] := .cons rx (.cons ry .nil)
  refine wpAny_call (codeAny_mono (F.run X.A X.stack s H ⟨[u, v], []⟩ [u, v] [x, y] _ E0 hr I.env0 (by
    have := hb s [u, v] I.kIn (by simpa using hl)
    simpa using this) r2 hsp) fun r s' hq => ?_)
  cases r with
  | error e => exact False.elim hq
  | ok fl =>
    cases fl with
    | ret w =>
      obtain ⟨z, H', I', rz, b, ez, q⟩ := I.after hq
      subst ez
      cases rz
      exact ⟨⟨b, rfl⟩, .bl b, H', I', rfl, q⟩
    | next => exact False.elim hq
    | brk => exact False.elim hq
    | cont => exact False.elim hq
theorem eq_left {k : Nat} {C f : Addr} {fd : FuncData} {ps : List Str} {sp : Sp} {pins : List (Addr × Obj)} {σ : L2.St} {H : Hp} {s : Shared} {l dx : Addr} {fs : List (Str × V)} {y : V} {v t : Value} {Q : VK}
    (F : FnOk X.prog X.w X.K X.mg X.base CX0 k f fd ps sp) (hb : Binds X.K fd ps []) (hr : Room k X.A) (ok : EqOk X.K C f) (I : Inv X pins σ H s) (ha : H l = some (.ins C dx fs)) (ry : RelV y v) (ty : TyX X.K H y t) (hn : PySem.W.notFirst X.K C t = true)
    (hsp : sp [.ref l, y] H (fun z H' => ∃ b, z = .bl b ∧ Q (.bl b) H') E0) :
    wpAny (model X.prog X.w) X.A (richCompare .Eq (.ref l) v) (EP X pins σ Q) X.xe s := by
  obtain ⟨mA, J, _⟩ := ins_get I.hok ha
  obtain ⟨od, J, _⟩ := J.look
  obtain ⟨m, hF⟩ := I.fr
  obtain ⟨P, Z, p, _⟩ := kit_of I ry ty
  refine PySem.W.cmp_K (op := .Eq) (tb := t) hr.units0 hF I.ok.mod.kin J (Z.ty (model X.prog X.w) s.heap I.kIn p) hn ok.eq ok.fn ?_
  refine wpAny_mono (eq_call F hb hr I (x := .ref l) (y := y) rfl ry hsp) (fun r s' hq => ?_) fun _ _ x => x
  obtain ⟨⟨b, rfl⟩, q⟩ := hq
  exact q
theorem int_eq_declines (b : Int) (u : Tok) (l : Addr) (C dx : Addr) :
    Meets (Builtin.«int.__eq__» ⟨[.int b u, .ref l], []⟩) (fun _ R s => s.heap.get? l = some (PySem.W.instObj C dx) ∧ R (.ok (.ret .notImplemented)) s) :=
  .of_wp fun prog w A R s h => by obtain ⟨hp, g, d, tk, os⟩ := s; obtain ⟨hl, h⟩ := h; unfold PySem.W.instObj at hl; wp_walk using wpAny_loadPart' hl, wpAny_load hl; exact ⟨_, rfl, h⟩
theorem str_eq_declines (b : Str) (u : Tok) (l : Addr) (C dx : Addr) :
    Meets (Builtin.«str.__eq__» ⟨[.str b u, .ref l], []⟩) (fun _ R s => s.heap.get? l = some (PySem.W.instObj C dx) ∧ R (.ok (.ret .notImplemented)) s) :=
  .of_wp fun prog w A R s h => by obtain ⟨hp, g, d, tk, os⟩ := s; obtain ⟨hl, h⟩ := h; unfold PySem.W.instObj at hl; wp_walk using wpAny_loadPart' hl, wpAny_load hl; exact ⟨_, rfl, h⟩
theorem tup_eq_declines (b : Addr) (items : Array Value) (n : Nat) (dd : Option Addr) (sl : Array (Option Value)) (l : Addr) (C dx : Addr) (hK : PySem.W.subIn K (.ref C) (.type "tuple") = some false) :
    Meets (Builtin.«tuple.__eq__» ⟨[.ref b, .ref l], []⟩) (fun _ R s => (K.In s.heap ∧ s.heap.get? l = some (PySem.W.instObj C dx) ∧ s.heap.get? b = some { cls := .type "tuple", dict := dd, data := .seq items n, slots := sl }) ∧ R (.ok (.ret .notImplemented)) s) :=
  .of_wp fun prog w A R s h => by
    obtain ⟨⟨KX, hl, hb⟩, h⟩ := h
    have L1 := PySem.W.looks_subIn (M := model prog w) KX hK
    obtain ⟨hp, g, d, tk, os⟩ := s
    unfold PySem.W.instObj at hl
    wp_walk using wpAny_loadPart' hl, wpAny_loadPart' hb
    refine L1.here ?_
    exact wpAny_pure ⟨_, rfl, h⟩
theorem eq_right {k : Nat} {C f : Addr} {fd : FuncData} {ps : List Str} {sp : Sp} {pins : List (Addr × Obj)} {σ : L2.St} {H : Hp} {s : Shared} {l dx : Addr} {fs : List (Str × V)} {y : V} {v : Value} {Q : VK} {T id : String}
    (F : FnOk X.prog X.w X.K X.mg X.base CX0 k f fd ps sp) (hb : Binds X.K fd ps []) (hr : Room k X.A) (ok : EqOk X.K C f) (I : Inv X pins σ H s) (ha : H l = some (.ins C dx fs)) (ry : RelV y v)
    (hT : s.TypeIs v T) (hs : PySem.W.subIn X.K (.ref C) (.type T) = some false) (sl : Slot T (cmpInfo .Eq).2.1 id)
    (hc : ∀ R' : Value → Shared → Prop, R' .notImplemented s → wpAny (model X.prog X.w) X.A (call (.builtin id) [v, .ref l]) R' X.xe s)
    (hsp : sp [.ref l, y] H (fun z H' => ∃ b, z = .bl b ∧ Q (.bl b) H') E0) :
    wpAny (model X.prog X.w) X.A (richCompare .Eq v (.ref l)) (EP X pins σ Q) X.xe s := by
  obtain ⟨mA, J, _⟩ := ins_get I.hok ha
  obtain ⟨od, J, _⟩ := J.look
  obtain ⟨m, hF⟩ := I.fr
  have KX := I.kIn
  have e1 : (cmpInfo CmpOp.Eq).2.2 = "__eq__" := rfl
  rcases hi : cmpInfo CmpOp.Eq with ⟨sym, g, r⟩
  have er : r = "__eq__" := by rw [hi] at e1; exact e1
  rw [hi] at sl
  simp only [richCompare, hi, hT.oneThing_none]
  refine wpAny_holding ?_
  refine wpAny_bind (wpAny_cRoomFor hr.units0 ?_)
  refine wpAny_bind (wpAny_typeOf hT (wpAny_bind (J.type.here ?_)))
  have hne : (Value.type T != Value.ref C) = true := by simp [bne, BEq.beq]
  simp only [hne, if_true]
  refine wpAny_bind ((PySem.W.looks_subIn KX hs).here ?_)
  simp only [Bool.false_eq_true, if_false, Bool.not_false, if_true]
  refine wpAny_bind (m := tryCompare v _ (.ref l)) (wpAny_tryCompare_declines hT sl (hc _ ⟨rfl, ?_⟩))
  have hcall := eq_call F hb hr I (x := .ref l) (y := y) rfl ry hsp
  refine wpAny_bind (m := tryCompare (.ref l) _ v) ?_
  unfold tryCompare
  subst er
  refine wpAny_bind (PySem.W.ifBound_K KX J ok.eq ok.fn (wpAny_mono hcall (fun z s' hz => ?_) fun _ _ x => x))
  obtain ⟨⟨b, rfl⟩, q⟩ := hz
  exact wpAny_pure (wpAny_pure q)

structure EqFn (P : Program) (w : World) (K : PySem.W.Frag) (mg : Str → Option Value) (base : Heap) (cA : Nat → Addr) (k c : Nat) (g : Fv) : Prop where
  ex : ∃ f fd ps, FnOk P w K mg base CX0 k f fd ps (spOf cA 2 g) ∧ Binds K fd ps [] ∧ EqOk K (cA c) f
structure EqFns (P : Program) (w : World) (K : PySem.W.Frag) (mg : Str → Option Value) (base : Heap) (cA : Nat → Addr) (k : Nat) (g : Nat → Fv) : Prop where
  e0 : EqFn P w K mg base cA k 0 (g 0)
  e1 : EqFn P w K mg base cA k 1 (g 1)
  e2 : EqFn P w K mg base cA k 2 (g 2)
theorem EqFns.at {P : Program} {w : World} {mg : Str → Option Value} {base : Heap} {k : Nat} {g : Nat → Fv} (E : EqFns P w K mg base cA k g) {c : Nat} (h : c = 0 ∨ c = 1 ∨ c = 2) : EqFn P w K mg base cA k c (g c) := by
  rcases h with rfl | rfl | rfl
  · exact E.e0
  · exact E.e1
  · exact E.e2
def flatT : D → Bool
  | .non => true
  | .int _ => true
  | .str _ => true
  | .tup _ => true
  | _ => false
def isC3 : Nat → Bool
  | 0 => true
  | 1 => true
  | 2 => true
  | _ => false
theorem isC3_or {c : Nat} (h : isC3 c = true) : c = 0 ∨ c = 1 ∨ c = 2 := by
  unfold isC3 at h
  split at h
  · exact .inl rfl
  · exact .inr (.inl rfl)
  · exact .inr (.inr rfl)
  · cases h
def okR (c : Nat) : D → Bool
  | .ins c' _ => Nat.beq c' c
  | d => flatT d
def toBW : Option (D × W) → Option (Bool × W)
  | some (.bl b, w) => some (b, w)
  | _ => none
def eqU (g : Nat → Fv) (x y : D) (w : W) : Option (Bool × W) := match x with
  | .ins c ds => if isC3 c && okR c y then toBW (g c [.fr (.ins c ds), .fr y] w) else none
  | x => match y with
    | .ins c ds => if isC3 c && flatT x then toBW (g c [.fr (.ins c ds), .fr x] w) else none
    | _ => none
theorem toBW_some {o : Option (D × W)} {b : Bool} {w : W} (h : toBW o = some (b, w)) : o = some (.bl b, w) := by
  unfold toBW at h
  split at h
  · cases h; rfl
  · cases h
def evEqU (g : Nat → Fv) (ta tb : TEv) : TEv := fun env w => match ta env w with
  | some (x, env, w) => match tb env w with
    | some (y, env, w) => match eqU g x y w with
      | some (b, w) => some (.bl b, env, w)
      | none => none
    | none => none
  | none => none
/-- the two ways -/
def rEqU (K : PySem.W.Frag) (cA : Nat → Addr) (g : Nat → Fv) : R2 := fun x y H Q =>
  (∃ c l dx fs t, (c = 0 ∨ c = 1 ∨ c = 2) ∧ x = .ref l ∧ H l = some (.ins (cA c) dx fs) ∧ TyX K H y t ∧ PySem.W.notFirst K (cA c) t = true ∧ spOf cA 2 (g c) [.ref l, y] H (fun z H' => ∃ b, z = .bl b ∧ Q (.bl b) H') E0) ∨
  (∃ c l dx fs, (c = 0 ∨ c = 1 ∨ c = 2) ∧ y = .ref l ∧ H l = some (.ins (cA c) dx fs) ∧ (x = .non ∨ (∃ i, x = .int i) ∨ (∃ z, x = .str z) ∨ ∃ t us, x = .ref t ∧ H t = some (.tup us)) ∧ spOf cA 2 (g c) [.ref l, x] H (fun z H' => ∃ b, z = .bl b ∧ Q (.bl b) H') E0)
theorem op_eqU {k : Nat} {g : Nat → Fv} (E : EqFns X.prog X.w X.K X.mg X.base cA k g) (hr : Room k X.A) : OpR X (compareOp .Eq) (rEqU X.K cA g) := by
  intro pins s σ H x y v u Q I rx ry hq
  show wpAny (model X.prog X.w) X.A (richCompare .Eq v u) (EP X pins σ Q) X.xe s
  rcases hq with ⟨c, l, dx, fs, t, hc, rfl, ha, ty, hn, hsp⟩ | ⟨c, l, dx, fs, hc, rfl, ha, hx, hsp⟩
  · obtain ⟨f, fd, ps, G, hb, ok⟩ := (E.at hc).ex
    cases rx
    exact eq_left G hb hr ok I ha ry ty hn hsp
  · obtain ⟨f, fd, ps, G, hb, ok⟩ := (E.at hc).ex
    cases ry
    obtain ⟨d, z, ne, ob, mA, n, r, q⟩ := (show ObjOk X.prog X.w H s.heap l (.ins (cA c) dx fs) from I.hok l _ ha)
    rcases hx with rfl | ⟨i, rfl⟩ | ⟨z, rfl⟩ | ⟨t, us, rfl, ht⟩
    · cases rx
      exact eq_right G hb hr ok I ha (y := .non) rfl rfl ok.r0 F.slot_NoneType_eq (fun R' h' => call_gives F.slot_NoneType_eq rfl F.entry_NoneType_eq (F.args_NoneType_eq_2 _ _) (SeqAt.NoneType___eq___none_ref_0 l) h') hsp
    · obtain ⟨tk, rfl⟩ := rx
      exact eq_right G hb hr ok I ha (y := .int i) ⟨tk, rfl⟩ (typeIs_int s i tk) ok.r2 F.slot_int_eq (fun R' h' => call_meets F.slot_int_eq (typeIs_int s i tk) F.entry_int_eq (F.args_int_eq_2 _ _) (int_eq_declines i tk l (cA c) dx) ⟨ob, h'⟩) hsp
    · obtain ⟨tk, rfl⟩ := rx
      exact eq_right G hb hr ok I ha (y := .str z) ⟨tk, rfl⟩ (typeIs_str s z tk) ok.r3 F.slot_str_eq (fun R' h' => call_meets F.slot_str_eq (typeIs_str s z tk) F.entry_str_eq (F.args_str_eq_2 _ _) (str_eq_declines z tk l (cA c) dx) ⟨ob, h'⟩) hsp
    · cases rx
      obtain ⟨_, its, rv, ⟨oc, od, dt, sl⟩, h1, h2, n', h3⟩ := (show ObjOk X.prog X.w H s.heap t (.tup us) from I.hok t _ ht)
      simp only at h2 h3
      subst h2 h3
      exact eq_right G hb hr ok I ha (y := .ref t) rfl ⟨_, h1, rfl⟩ ok.r4 F.slot_tuple_eq (fun R' h' => call_meets F.slot_tuple_eq ⟨_, h1, rfl⟩ F.entry_tuple_eq (F.args_tuple_eq_2 _ _) (tup_eq_declines (K := X.K) t its.toArray n' od sl l (cA c) dx ok.r4) ⟨⟨I.kIn, ob, h1⟩, h'⟩) hsp
theorem ty_of_flat {ast F0 H0 F ξ H env w} (ok : TysOk K cA) (I : SR cA ast F0 H0 F ξ H env w) {d : D} {v : V} (r : RelD cA ast F d v) {c : Nat} (hc : c = 0 ∨ c = 1 ∨ c = 2) (h : okR c d = true) : ∃ t, TyX K H v t ∧ PySem.W.notFirst K (cA c) t = true := by
  have o : TyOk K (cA c) := by
    rcases hc with rfl | rfl | rfl
    · exact ok.t0
    · exact ok.t1
    · exact ok.t2
  have sb : ∀ {t : String}, PySem.W.kitOne K (.type t) (.ref (cA c)) = some false → PySem.W.notFirst K (cA c) (.type t) = true := fun {t} h => by
    unfold PySem.W.notFirst
    rw [sub_of_kit h]
    simp
  have dom : tyN d < 6 ∨ tyN d = 10 ∨ tyN d = 11 ∨ tyN d = 12 := by
    cases d with
    | ins c' ds =>
      have : c' = c := Nat.eq_of_beq_eq_true h
      subst this
      simp only [tyN]
      omega
    | _ => first | (cases h; done) | (left; simp only [tyN]; decide)
  refine ⟨_, tyX_of ok ⟨_, I.so.hst⟩ I.so.sub (RelB.of I.so.sub r) dom, ?_⟩
  cases d with
  | non => exact sb o.h0
  | int _ => exact sb o.h2
  | str _ => exact sb o.h3
  | tup _ => exact sb o.h4
  | ins c' ds =>
    have : c' = c := Nat.eq_of_beq_eq_true h
    subst this
    have e : tyV cA (tyN (.ins c' ds)) = .ref (cA c') := by
      rcases hc with rfl | rfl | rfl <;> rfl
    rw [e]
    simp [PySem.W.notFirst]
  | _ => cases h
theorem rd_eqU {k : Nat} {g : Nat → Fv} (ok : TysOk K cA) {σ : L2.St} {H : Hp} {Q : VK} (q : rdE cA (evEqU g ta tb) σ H Q) : tOp (rEqU K cA g) (rdE cA ta) (rdE cA tb) σ H Q := by
  obtain ⟨ast, F0, H0, F, τ, env, w, d, env', w', I, ee, kk⟩ := q
  unfold evEqU at ee
  split at ee
  · rename_i x env1 w1 e1
    split at ee
    · rename_i y env2 w2 e2
      split at ee
      · rename_i b w3 e3
        cases ee
        refine rdE_mk I e1 fun F1 H1 v1 I1 s1 r1 => rdE_mk I1 e2 fun F2 H2 v2 I2 s2 r2 => ?_
        have r1 := RelD.mono s2 _ _ r1
        have fin : ∀ F' H' v, Fx ast F2 H2 F' H' → StOk ast F' H' w' → RelD cA ast F' (.bl b) v → ∃ b', v = .bl b' ∧ Q (.bl b') H' := fun F' H' v fx so r => ⟨b, r, kk F' H' (.bl b) (I2.step fx so) (s1.trans (s2.trans fx.fz)) rfl⟩
        have left : ∀ {c ds}, x = .ins c ds → (isC3 c && okR c y) = true → g c [.fr x, .fr y] w2 = some (.bl b, w') → rEqU K cA g v1 v2 H2 Q := fun {c ds} ex hc hg => by
          subst ex
          rw [Bool.and_eq_true] at hc
          have hc3 := isC3_or hc.1
          obtain ⟨t, ty, hn⟩ := ty_of_flat ok I2 r2 hc3 hc.2
          have rr := r1
          obtain ⟨l, dx, vs, rfl, hl, _⟩ := r1
          refine .inl ⟨c, l, dx, _, t, hc3, rfl, I2.so.sub _ _ hl, ty, hn, rfl, ast, F2, [.fr (.ins c ds), .fr y], w2, _, w', I2.so, ⟨_, _, rfl, rr, _, _, rfl, r2, rfl⟩, hg, fin⟩
        have right : ∀ {c ds}, y = .ins c ds → (isC3 c && flatT x) = true → g c [.fr y, .fr x] w2 = some (.bl b, w') → rEqU K cA g v1 v2 H2 Q := fun {c ds} ey hc hg => by
          subst ey
          rw [Bool.and_eq_true] at hc
          have hc3 := isC3_or hc.1
          have rr := r2
          obtain ⟨l, dx, vs, rfl, hl, _⟩ := r2
          refine .inr ⟨c, l, dx, _, hc3, rfl, I2.so.sub _ _ hl, ?_, rfl, ast, F2, [.fr (.ins c ds), .fr x], w2, _, w', I2.so, ⟨_, _, rfl, rr, _, _, rfl, r1, rfl⟩, hg, fin⟩
          cases x with
          | non => exact .inl r1
          | int i => exact .inr (.inl ⟨i, r1⟩)
          | str z => exact .inr (.inr (.inl ⟨z, r1⟩))
          | tup ds => obtain ⟨t, us, rfl, ht, _⟩ := r1; exact .inr (.inr (.inr ⟨t, us, rfl, I2.so.sub _ _ ht⟩))
          | _ => cases hc.2
        unfold eqU at e3
        split at e3
        · split at e3
          · rename_i hc
            exact left rfl hc (toBW_some e3)
          · cases e3
        · split at e3
          · split at e3
            · rename_i hc
              exact right rfl hc (toBW_some e3)
            · cases e3
          · cases e3
      · cases ee
    · cases ee
  · cases ee
theorem pE_eqU {k : Nat} {g : Nat → Fv} (ok : TysOk X.K cA) (E : EqFns X.prog X.w X.K X.mg X.base cA k g) (hr : Room k X.A) (ha : PE X a (rdE cA ta)) (hb : PE X b (rdE cA tb)) (hm : behindInMarks .Eq b = false) : PE X (.Compare a [.Eq] [b] pos) (rdE cA (evEqU g ta tb)) :=
  PE.imp (pe_cmpR (op_eqU E hr) ha hb hm) fun σ H Q q => rd_eqU (k := k) ok q
end Ev

namespace Ev
open PySem L2 PySem.Spec PyProof.Rows
variable {cA : Nat → Addr} {X : Cx} {a b c e : Expr} {ta tb tc te : TEv} {pos : Pos}

theorem ltb {i n : Nat} (h : Nat.blt i n = true) : i < n := Nat.blt_eq.mp h
theorem hu65 {k : Nat} {A : Around} (hr : Room k A) : A.units + 65 < cLine := by have := hr.un; omega
theorem hu1 {k : Nat} {A : Around} (hr : Room k A) : A.units + 1 < cLine := by have := hr.un; omega
/-- an expression as a statement -/
def stExpr (t : TEv) : TSv := fun env w => match t env w with
  | some (_, env, w) => some (.nx env w)
  | none => none
theorem pS_expr (he : PE X e (rdE cA te)) (hs : swapsWith e none pos.line X.env = pure false := by rfl) : PS X (.Expr e pos) (rdS cA (stExpr te)) :=
  PS.imp (ps_expr he hs) fun Dd σ H ⟨ast, F0, H0, F, env, w, fl, I, ee, k⟩ => by
    unfold stExpr at ee
    split at ee
    · rename_i d env1 w1 e1
      cases ee
      exact rdE_mk (sr0 I) e1 fun F1 H1 v1 I1 s1 r1 => k F1 H1 σ (sr1 I1) s1
    · cases ee
/-- a < b < c -/
def evChain (f f' : D → D → Option D) (ta tb tc : TEv) : TEv := fun env w => match ta env w with
  | some (x, env, w) => match tb env w with
    | some (y, env, w) => match f x y with
      | some (.bl true) => match tc env w with
        | some (z, env, w) => match f' y z with
          | some d => some (d, env, w)
          | none => none
        | none => none
      | some (.bl false) => some (.bl false, env, w)
      | _ => none
    | none => none
  | none => none
theorem rd_chain {r r' : R2} {f f' : D → D → Option D} (hf : Op2 cA r f) (hf' : Op2 cA r' f') : ∀ σ H Q, rdE cA (evChain f f' ta tb tc) σ H Q → tChain r r' (rdE cA ta) (rdE cA tb) (rdE cA tc) σ H Q := fun σ H Q ⟨ast, F0, H0, F, τ, env, w, d, env', w', I, ee, k⟩ => by
  unfold evChain at ee
  split at ee
  · rename_i x env1 w1 e1
    split at ee
    · rename_i y env2 w2 e2
      refine rdE_mk I e1 fun F1 H1 v1 I1 s1 r1 => rdE_mk I1 e2 fun F2 H2 v2 I2 s2 r2 => ?_
      split at ee
      · rename_i e3
        refine hf ast F0 H0 F2 _ H2 env2 w2 x y _ v1 v2 _ I2 (RelD.mono s2 _ _ r1) r2 e3 fun F3 H3 v3 I3 s3 r3 => ⟨true, r3, iteT ?_⟩
        split at ee
        · rename_i z env4 w4 e4
          split at ee
          · rename_i d5 e5
            cases ee
            exact rdE_mk I3 e4 fun F4 H4 v4 I4 s4 r4 => hf' ast F0 H0 F4 _ H4 _ _ y z d v2 v4 Q I4 (RelD.mono (s3.trans s4) _ _ r2) r4 e5 fun F5 H5 v5 I5 s5 r5 => k F5 H5 v5 I5 (s1.trans (s2.trans (s3.trans (s4.trans s5)))) r5
          · cases ee
        · cases ee
      · rename_i e3
        cases ee
        refine hf ast F0 H0 F2 _ H2 _ _ x y _ v1 v2 _ I2 (RelD.mono s2 _ _ r1) r2 e3 fun F3 H3 v3 I3 s3 r3 => ⟨false, r3, iteF ?_⟩
        exact k F3 H3 _ I3 (s1.trans (s2.trans s3)) rfl
      · cases ee
    · cases ee
  · cases ee
theorem pE_chain {op op' : CmpOp} {r r' : R2} {f f' : D → D → Option D} (ho : OpR X (compareOp op) r) (hf : Op2 cA r f) (ho' : OpR X (compareOp op') r') (hf' : Op2 cA r' f') (ha : PE X a (rdE cA ta)) (hb : PE X b (rdE cA tb)) (hc : PE X c (rdE cA tc))
    (hm : lastMarks [op, op'] [b, c] = false := by with_unfolding_all rfl) : PE X (.Compare a [op, op'] [b, c] pos) (rdE cA (evChain f f' ta tb tc)) :=
  PE.imp (pe_chain ho ho' ha hb hc hm) (rd_chain hf hf')
theorem pT_chain {op op' : CmpOp} {r r' : R2} {f f' : D → D → Option D} (ho : OpR X (compareOp op) r) (hf : Op2 cA r f) (ho' : OpR X (compareOp op') r') (hf' : Op2 cA r' f') (ha : PE X a (rdE cA ta)) (hb : PE X b (rdE cA tb)) (hc : PE X c (rdE cA tc))
    (hm : lastMarks [op, op'] [b, c] = false := by with_unfolding_all rfl) : PT X (.Compare a [op, op'] [b, c] pos) (rdT cA (evT (evChain f f' ta tb tc))) :=
  PT.imp (pt_chain ho ho' ha hb hc hm) fun σ H Q q => rd_chain hf hf' _ _ _ (rd_test q)
/-- x, y = e -/
def stAsg (t : TEv) (g : Tgv) : TSv := fun env w => match t env w with
  | some (d, env, w) => match g d env with
    | some env => some (.nx env w)
    | none => none
  | none => none
theorem pS_asg {tg : Expr} {g : Tgv} {vs : List Nat} (he : PE X e (rdE cA te)) (hg : PG X tg (rdTg cA vs g)) (hs : swapsWithSole [tg] e pos.line X.env = pure false := by rfl) (hw : swappedStores [tg] e X.env = pure none := by rfl)
    (h1 : (assignEach [tg] X.env).map (·.2) = [assign tg X.env] := by rfl) : PS X (.Assign [tg] e pos) (rdS cA (stAsg te g)) :=
  PS.imp (ps_asg he hg hs hw h1) fun Dd σ H ⟨ast, F0, H0, F, env, w, fl, I, ee, k⟩ => by
    unfold stAsg at ee
    split at ee
    · rename_i d env1 w1 e1
      split at ee
      · rename_i env2 e2
        cases ee
        refine rdE_mk (sr0 I) e1 fun F1 H1 v1 I1 s1 r1 => ⟨ast, F0, H0, F1, [], env1, _, d, env2, I1, r1, e2, fun σ' I2 _ => k F1 H1 σ' (sr1 I2) s1⟩
      · cases ee
    · cases ee
/-- a constant of the module -/
theorem pE_gc {x : Str} {d : D} (hg : Gl X x) (h : ∃ u v, X.mg x = some u ∧ RelV v u ∧ ∀ ast F, RelD cA ast F d v) (hd : (x == ("__debug__" : Str)) = false := by decide) : PE X (.Name x pos) (rdE cA (evC d)) := by
  obtain ⟨u, v, hm, r, rd⟩ := h
  exact pE_glob hg hm r rd hd
/-! ### how long a display is -/
def LenIs (n : Nat) (t : TLv) : Prop := ∀ env w ds env' w', t env w = some (ds, env', w') → ds.length = n
theorem len_nil : LenIs 0 evNil := fun env w ds env' w' e => by cases e; rfl
theorem len_cons {n : Nat} {t : TLv} (h : LenIs n t) : LenIs (n + 1) (evCons ta t) := fun env w ds env' w' e => by
  obtain ⟨x, xs, env1, w1, e1, e2, rfl⟩ := evCons_some e
  rw [List.length_cons, h _ _ _ _ _ e2]
/-! ### defs and classes of the text -/
section
variable {P : Program} {w : World} {K : PySem.W.Frag} {mg : Str → Option Value} {base : Heap}
structure CalE (P : Program) (w : World) (K : PySem.W.Frag) (mg : Str → Option Value) (base : Heap) (cA : Nat → Addr) (k : Nat) (x : Str) (n : Nat) (g : Fv) : Prop where
  ex : ∃ f fd ps, FnOk P w K mg base CX0 k f fd ps (spOf cA n g) ∧ mg x = some (.ref f) ∧ PySem.W.keepIn K (.ref f) = true ∧ Binds K fd ps []
structure MakE (P : Program) (w : World) (K : PySem.W.Frag) (mg : Str → Option Value) (base : Heap) (cA : Nat → Addr) (k : Nat) (x : Str) (cl n : Nat) (g : Iv) : Prop where
  ex : ∃ f fd ps, Mk K (cA cl) f ∧ FnOk P w K mg base CX0 k f fd ps (spIn cA cl n g) ∧ mg x = some (.ref (cA cl)) ∧ Binds K fd ps []
/-- a def as it stands behind the top -/
structure DefE (K : PySem.W.Frag) (mg : Str → Option Value) (x : Str) (st : Stmt) (ps : List Str) : Prop where
  ex : ∃ f fd, L2.Fun K x x st f fd ∧ mg x = some (.ref f) ∧ Binds K fd ps []
/-- a class's __init__ -/
structure IniE (K : PySem.W.Frag) (mg : Str → Option Value) (x qual : Str) (C : Addr) (st : Stmt) (ps : List Str) : Prop where
  ex : ∃ f fd dvs, FunD K "__init__" qual (defArgs st) (defBody st) (defScope st) dvs [] f fd ∧ Mk K C f ∧ mg x = some (.ref C) ∧ Binds K fd ps []
/-- a class's __eq__ -/
structure EqlE (K : PySem.W.Frag) (qual : Str) (C : Addr) (st : Stmt) (ps : List Str) : Prop where
  ex : ∃ f fd, L2.Fun K "__eq__" qual st f fd ∧ EqOk K C f ∧ Binds K fd ps []
theorem DefE.cal {x : Str} {st : Stmt} {N ps : List Str} {k n m : Nat} {g : TSv} (d : DefE K mg x st ps) (S : FnScope N ps (defScope st)) (hn : ps.length = n) (hm : N.length = n + m)
    (hbody : ∀ (f : Addr) (cdv : Value) (A : Around) (outer : List PySem.Env) (s : Shared) (H : Hp) (E : XK), Room k (A.deeper (envOfC x (defScope st) s.heap.objs.size f cdv)) →
      PSs (cxOf CX0 P w K mg base N x (defScope st) f cdv A outer s H E).nox (defBody st) (rdS cA g)) : CalE P w K mg base cA (k + 1) x n (fvOf m g) := by
  obtain ⟨f, fd, F, hm', hb⟩ := d.ex
  exact ⟨f, fd, ps, fn_ok F S hn hm (hbody f), hm', F.kp, hb⟩
theorem EqlE.eqf {qual : Str} {c : Nat} {st : Stmt} {N ps : List Str} {k m : Nat} {g : TSv} (d : EqlE K qual (cA c) st ps) (S : FnScope N ps (defScope st)) (hn : ps.length = 2) (hm : N.length = 2 + m)
    (hbody : ∀ (f : Addr) (cdv : Value) (A : Around) (outer : List PySem.Env) (s : Shared) (H : Hp) (E : XK), Room k (A.deeper (envOfC qual (defScope st) s.heap.objs.size f cdv)) →
      PSs (cxOf CX0 P w K mg base N qual (defScope st) f cdv A outer s H E).nox (defBody st) (rdS cA g)) : EqFn P w K mg base cA (k + 1) c (fvOf m g) := by
  obtain ⟨f, fd, F, ok, hb⟩ := d.ex
  exact ⟨f, fd, ps, fn_ok F S hn hm (hbody f), hb, ok⟩
theorem IniE.mak {x qual : Str} {st : Stmt} {N ps : List Str} {k n m cl : Nat} {g : TSv} (d : IniE K mg x qual (cA cl) st ps) (S : FnScope N ps (defScope st)) (hn : ps.length = n + 1) (hm : N.length = n + 1 + m)
    (hbody : ∀ (f : Addr) (cdv : Value) (A : Around) (outer : List PySem.Env) (s : Shared) (H : Hp) (E : XK), Room k (A.deeper (envOfC qual (defScope st) s.heap.objs.size f cdv)) →
      PSs (cxOf CX0 P w K mg base N qual (defScope st) f cdv A outer s H E).nox (defBody st) (rdS cA g)) : MakE P w K mg base cA (k + 1) x cl n (ivOf cl m g) := by
  obtain ⟨f, fd, dvs, F, M, hm', hb⟩ := d.ex
  exact ⟨f, fd, ps, M, init_ok F S hn hm (hbody f), hm', hb⟩
end
theorem EqFn.mono {P : Program} {w : World} {K : PySem.W.Frag} {mg : Str → Option Value} {base : Heap} {j k c : Nat} {g : Fv} (E : EqFn P w K mg base cA j c g) (h : j ≤ k) : EqFn P w K mg base cA k c g := by
  obtain ⟨f, fd, ps, F, hb, ok⟩ := E.ex
  exact ⟨f, fd, ps, F.mono h, hb, ok⟩
section
variable {j k n cl : Nat} {x : Str} {p : Pos} {es : List Expr} {t : TGv} {g : Fv} {gi : Iv}
theorem pE_c (c : CalE X.prog X.w X.K X.mg X.base cA k x n g) (hr : Room j X.A) (hk : Nat.ble k j = true) (hg : Gl X x) (ha : PA X (e :: es) (rdR cA t))
    (hdb : (x == ("__debug__" : Str)) = false := by decide) (he : starEach (e :: es) X.env = (false, eval e X.env) :: starEach es X.env := by rfl) (hpl : (backTo pos (starEach es X.env)).any (·.1) = false := by rfl) :
    PE X (.Call (.Name x p) (e :: es) [] pos) (rdE cA (evCall n g [] t)) := by
  obtain ⟨f, fd, ps, F, hm, kp, b⟩ := c.ex
  exact pE_call F (hr.mono (Nat.le_of_ble_eq_true hk)) hg hm kp b .nil defNil ha hdb he hpl
theorem pE_mk (c : MakE X.prog X.w X.K X.mg X.base cA k x cl n gi) (hr : Room j X.A) (hk : Nat.ble (k + 1) j = true) (hg : Gl X x) (ha : PA X (e :: es) (rdR cA t))
    (hdb : (x == ("__debug__" : Str)) = false := by decide) (he : starEach (e :: es) X.env = (false, eval e X.env) :: starEach es X.env := by rfl) (hpl : (backTo pos (starEach es X.env)).any (·.1) = false := by rfl) :
    PE X (.Call (.Name x p) (e :: es) [] pos) (rdE cA (evMake cl n gi [] t)) := by
  obtain ⟨f, fd, ps, M, F, hm, b⟩ := c.ex
  exact pE_make M F (hr.mono (Nat.le_of_ble_eq_true hk)) hg hm b .nil defNil ha hdb he hpl
end
abbrev ltZ (i j : Int) : Bool := decide (i < j)
abbrev leZ (i j : Int) : Bool := decide (i ≤ j)
abbrev gtZ (i j : Int) : Bool := decide (j < i)
abbrev geZ (i j : Int) : Bool := decide (j ≤ i)
theorem one_cls {K : PySem.W.Frag} {c j : Nat} {f : Str} (h : FldOk K cA c j f) : ∀ d ∈ [c], FldOk K cA d j f := fun d hd => by
  rw [List.mem_singleton.mp hd]; exact h
theorem bt_len : bootBuiltins "len" = some (.builtin "len") := by decide +kernel
theorem bt_sum : bootBuiltins "sum" = some (.builtin "sum") := by decide +kernel
theorem bt_all : bootBuiltins "all" = some (.builtin "all") := by decide +kernel
theorem bt_any : bootBuiltins "any" = some (.builtin "any") := by decide +kernel
theorem bt_abs : bootBuiltins "abs" = some (.builtin "abs") := by decide +kernel
theorem bt_sorted : bootBuiltins "sorted" = some (.builtin "sorted") := by decide +kernel
theorem bt_int : bootBuiltins "int" = some (.type "int") := by decide +kernel
theorem bt_bool : bootBuiltins "bool" = some (.type "bool") := by decide +kernel
theorem bt_tuple : bootBuiltins "tuple" = some (.type "tuple") := by decide +kernel
theorem bt_list : bootBuiltins "list" = some (.type "list") := by decide +kernel
end Ev

set_option maxHeartbeats 4000000
namespace Ev
open PySem L2 PySem.Spec PyProof.Rows
def g_is_integer : TSv := stRet (evAndV (evUn (fIsi 2) (evLook 0)) (evB (evNot (evT (evUn (fIsi 1) (evLook 0))))))
def fv_is_integer : Fv := fvOf 0 g_is_integer
def g_check_from : TSv := stIf (evOr (evNot (evT (evCall 1 fv_is_integer [] (agCons (evVar 0) (agNil))))) (evNot (evT (evChain (fCmp leZ) (fCmp leZ) (evVar 1) (evVar 0) (evVar 2))))) (stNo) (stSkip)
def fv_check_from : Fv := fvOf 0 g_check_from
def g_common : TSv := stSeq (stPar 0 1 (parE (evUn fAbs (evLook 0)) (parE (evUn fAbs (evLook 1)) (parNil)))) (stSeq (stWhile 300 (evT (evBin fNe (evVar 1) (evC (.int 0)))) (stPar 0 1 (parE (evVar 1) (parE (evBin fMod (evVar 0) (evVar 1)) (parNil))))) (stRet (evVar 0)))
def fv_common : Fv := fvOf 0 g_common
def g_picks : TSv := stSeq (stSet 2 (evLst (evCons (evTup (evCons (evTup (evNil)) (evCons (evC (.int 0)) (evNil)))) (evNil)))) (stSeq (stFor (itR1 (evCons (evVar 1) (evNil))) (tgName 3) (stSeq (stSetN 4 (evLst (evNil))) (stSeq (stFor (itE (evVar 2)) (tgTup 2 (tgCons (tgName 5) (tgCons (tgName 6) (tgNil)))) (stExt 4 (evLc [7] (itR2 (evCons (evVar 6) (evCons (evUn fLen (evLook 0)) (evNil)))) (tgName 7) (evYes) (evTup (evCons (evBin fAdd (evVar 5) (evTup (evCons (evIxN 0 (evVar 7)) (evNil)))) (evCons (evBin fAdd (evVar 7) (evC (.int 1))) (evNil))))))) (stSet 2 (evVar 4))))) (stRet (evLc [5, 3] (itN 2) (tgTup 2 (tgCons (tgName 5) (tgCons (tgName 3) (tgNil)))) (evYes) (evVar 5))))
def fv_picks : Fv := fvOf 6 g_picks
def g_is_vector : TSv := stSeq (stIf (evOr (evNot (evT (evUn (fIsi 4) (evLook 0)))) (evT (evBin fNe (evUn fLen (evLook 0)) (evVar 1)))) (stRet (evC (.bl false))) (stSkip)) (stRet (evUn fAll (evLc [2] (itN 0) (tgName 2) (evYes) (evAndV (evCall 1 fv_is_integer [] (agCons (evVar 2) (agNil))) (evBin (fCmp leZ) (evUn fAbs (evLook 2)) (evC (.int 100000)))))))
def fv_is_vector : Fv := fvOf 1 g_is_vector
def g_check_vector : TSv := stIf (evNot (evT (evCall 2 fv_is_vector [] (agCons (evVar 0) (agCons (evVar 1) (agNil)))))) (stNo) (stSkip)
def fv_check_vector : Fv := fvOf 0 g_check_vector
def g_is_null : TSv := stRet (evUn fAll (evLc [1] (itN 0) (tgName 1) (evYes) (evBin fEq (evVar 1) (evC (.int 0)))))
def fv_is_null : Fv := fvOf 1 g_is_null
def g_dot : TSv := stRet (evUn fSum (evLc [2, 3] (itZip false (agName 0 (agName 1 (agNil)))) (tgTup 2 (tgCons (tgName 2) (tgCons (tgName 3) (tgNil)))) (evYes) (evBin fMul (evVar 2) (evVar 3))))
def fv_dot : Fv := fvOf 2 g_dot
def g_scaled : TSv := stRet (evUn fTuple (evLc [2] (itN 0) (tgName 2) (evYes) (evBin fMul (evVar 1) (evVar 2))))
def fv_scaled : Fv := fvOf 1 g_scaled
def g_common_item : TSv := stSeq (stSet 1 (evC (.int 0))) (stSeq (stFor (itE (evVar 0)) (tgName 2) (stSet 1 (evCall 2 fv_common [] (agCons (evVar 1) (agCons (evVar 2) (agNil)))))) (stRet (evVar 1)))
def fv_common_item : Fv := fvOf 2 g_common_item
def g_primitive : TSv := stSeq (stSet 1 (evCall 1 fv_common_item [] (agCons (evVar 0) (agNil)))) (stRet (evUn fTuple (evLc [2] (itN 0) (tgName 2) (evYes) (evBin fDiv (evVar 2) (evVar 1)))))
def fv_primitive : Fv := fvOf 2 g_primitive
def g_least_at : TSv := stSeq (stSet 2 (evC .non)) (stSeq (stFor (itEnum true (agName 0 (agNil))) (tgTup 2 (tgCons (tgName 3) (tgCons (tgName 4) (tgNil)))) (stIf (evAnd (evT (evBin fNe (evIxN 4 (evVar 1)) (evC (.int 0)))) (evOr (evT (evBin fIsN (evVar 2) (evC .non))) (evT (evBin (fCmp ltZ) (evUn fAbs (evIxN 4 (evVar 1))) (evUn fAbs (evIx (evIxN 0 (evVar 2)) (evVar 1))))))) (stSet 2 (evVar 3)) (stSkip))) (stRet (evVar 2)))
def fv_least_at : Fv := fvOf 3 g_least_at
def g_normal_form : TSv := stSeq (stPar3 2 3 4 (parN (evLc [5] (itN 0) (tgName 5) (evYes) (evUn fList (evLook 5))) (parN (evLst (evNil)) (parN (evLst (evNil)) (parNil))))) (stSeq (stFor (itR1 (evCons (evVar 1) (evNil))) (tgName 6) (stSeq (stWhile 300 (evT (evBin (fCmp gtZ) (evUn fLen (evLc [5] (itN 2) (tgName 5) (evT (evBin fNe (evIxN 5 (evVar 6)) (evC (.int 0)))) (evC (.int 1)))) (evC (.int 1)))) (stSeq (stSet 7 (evCall 2 fv_least_at [] (agName 2 (agCons (evVar 6) (agNil))))) (stSeq (stSet 8 (evIxN 2 (evVar 7))) (stFor (itEnum true (agCons (evUn fList (evLook 2)) (agNil))) (tgTup 2 (tgCons (tgName 9) (tgCons (tgName 5) (tgNil)))) (stIf (evAnd (evT (evBin fNe (evVar 9) (evVar 7))) (evT (evBin fNe (evIxN 5 (evVar 6)) (evC (.int 0))))) (stSeq (stSet 10 (evBin fDiv (evIxN 5 (evVar 6)) (evIxN 8 (evVar 6)))) (stSetIx 2 (evVar 9) (evLc [11, 12] (itZip false (agCons (evVar 5) (agCons (evVar 8) (agNil)))) (tgTup 2 (tgCons (tgName 11) (tgCons (tgName 12) (tgNil)))) (evYes) (evBin fSub (evVar 11) (evBin fMul (evVar 10) (evVar 12)))))) (stSkip)))))) (stSeq (stSetN 13 (evLc [5] (itN 2) (tgName 5) (evT (evBin fNe (evIxN 5 (evVar 6)) (evC (.int 0)))) (evVar 5))) (stIf (evT (evBin fEq (evUn fLen (evLook 13)) (evC (.int 1)))) (stSeq (stSetN 2 (evLc [5] (itN 2) (tgName 5) (evT (evBin fEq (evIxN 5 (evVar 6)) (evC (.int 0)))) (evVar 5))) (stSeq (stSet 8 (evIf (evT (evBin (fCmp gtZ) (evIx (evIxN 13 (evC (.int 0))) (evVar 6)) (evC (.int 0)))) (evIxN 13 (evC (.int 0))) (evLc [14] (itE (evIxN 13 (evC (.int 0)))) (tgName 14) (evYes) (evUn fNeg (evVar 14))))) (stSeq (stApp 3 (evVar 8)) (stApp 4 (evVar 6))))) (stSkip))))) (stSeq (stFor (itEnum true (agCons (evVar 4) (agNil))) (tgTup 2 (tgCons (tgName 15) (tgCons (tgName 6) (tgNil)))) (stFor (itR1 (evCons (evVar 15) (evNil))) (tgName 9) (stSeq (stSet 10 (evBin fDiv (evIx (evIxN 3 (evVar 9)) (evVar 6)) (evIx (evIxN 3 (evVar 15)) (evVar 6)))) (stSetIx 3 (evVar 9) (evLc [11, 12] (itZip false (agCons (evIxN 3 (evVar 9)) (agCons (evIxN 3 (evVar 15)) (agNil)))) (tgTup 2 (tgCons (tgName 11) (tgCons (tgName 12) (tgNil)))) (evYes) (evBin fSub (evVar 11) (evBin fMul (evVar 10) (evVar 12)))))))) (stRet (evUn fTuple (evLc [5] (itN 3) (tgName 5) (evYes) (evUn fTuple (evLook 5)))))))
def fv_normal_form : Fv := fvOf 14 g_normal_form
def g_whole_rank : TSv := stRet (evUn fLen (evCall 2 fv_normal_form [] (agCons (evVar 0) (agCons (evVar 1) (agNil)))))
def fv_whole_rank : Fv := fvOf 0 g_whole_rank
def g_eliminated : TSv := stSeq (stPar 2 3 (parN (evLc [4] (itN 0) (tgName 4) (evYes) (evUn fList (evLook 4))) (parN (evLst (evNil)) (parNil)))) (stSeq (stFor (itR1 (evCons (evVar 1) (evNil))) (tgName 5) (stSeq (stWhile 300 (evT (evBin (fCmp gtZ) (evUn fLen (evLc [4] (itN 2) (tgName 4) (evT (evBin fNe (evIxN 4 (evVar 5)) (evC (.int 0)))) (evC (.int 1)))) (evC (.int 1)))) (stSeq (stSet 6 (evCall 2 fv_least_at [] (agName 2 (agCons (evVar 5) (agNil))))) (stSeq (stSet 7 (evIxN 2 (evVar 6))) (stFor (itEnum true (agCons (evUn fList (evLook 2)) (agNil))) (tgTup 2 (tgCons (tgName 8) (tgCons (tgName 4) (tgNil)))) (stIf (evAnd (evT (evBin fNe (evVar 8) (evVar 6))) (evT (evBin fNe (evIxN 4 (evVar 5)) (evC (.int 0))))) (stSeq (stSet 9 (evBin fDiv (evIxN 4 (evVar 5)) (evIxN 7 (evVar 5)))) (stSetIx 2 (evVar 8) (evLc [10, 11] (itZip false (agCons (evVar 4) (agCons (evVar 7) (agNil)))) (tgTup 2 (tgCons (tgName 10) (tgCons (tgName 11) (tgNil)))) (evYes) (evBin fSub (evVar 10) (evBin fMul (evVar 9) (evVar 11)))))) (stSkip)))))) (stSeq (stExt 3 (evLc [4] (itN 2) (tgName 4) (evT (evBin fNe (evIxN 4 (evVar 5)) (evC (.int 0)))) (evVar 4))) (stSetN 2 (evLc [4] (itN 2) (tgName 4) (evT (evBin fEq (evIxN 4 (evVar 5)) (evC (.int 0)))) (evVar 4)))))) (stRet (evBin fAdd (evVar 3) (evVar 2))))
def fv_eliminated : Fv := fvOf 10 g_eliminated
def g_null_rows : TSv := stSeq (stSetN 2 (evLc [5] (itR1 (evCons (evVar 1) (evNil))) (tgName 5) (evYes) (evTup (evCons (evLc [3] (itN 0) (tgName 3) (evYes) (evIxN 3 (evVar 5))) (evCons (evLc [4] (itR1 (evCons (evVar 1) (evNil))) (tgName 4) (evYes) (evUn fInt (evBin fEq (evVar 4) (evVar 5)))) (evNil)))))) (stSeq (stSet 6 (evUn fLen (evLook 0))) (stSeq (stSetN 7 (evLst (evNil))) (stSeq (stFor (itE (evVar 2)) (tgTup 2 (tgCons (tgName 8) (tgCons (tgName 9) (tgNil)))) (stApp 7 (evBin fAdd (evVar 8) (evVar 9)))) (stSeq (stSet 10 (evCall 2 fv_eliminated [] (agName 7 (agCons (evVar 6) (agNil))))) (stRet (evCall 2 fv_normal_form [] (agCons (evLc [3] (itN 10) (tgName 3) (evT (evUn fAll (evLc [11] (itE (evSl (evVar 3) (evNoP) (evP (evVar 6)))) (tgName 11) (evYes) (evBin fEq (evVar 11) (evC (.int 0)))))) (evUn fTuple (evSl (evVar 3) (evP (evVar 6)) (evNoP)))) (agCons (evVar 1) (agNil)))))))))
def fv_null_rows : Fv := fvOf 10 g_null_rows
def g_across : TSv := stSeq (stSet 2 (evCall 2 fv_null_rows [] (agCons (evVar 0) (agCons (evVar 1) (agNil))))) (stRet (evIf (evT (evBin fEq (evUn fLen (evLook 2)) (evC (.int 1)))) (evCall 1 fv_primitive [] (agCons (evIxN 2 (evC (.int 0))) (agNil))) (evC .non)))
def fv_across : Fv := fvOf 1 g_across
def g_side_rows : TSv := stSeq (stSet 3 (evBin fSub (evVar 2) (evUn fLen (evLook 1)))) (stSeq (stIf (evT (evBin fEq (evVar 3) (evC (.int 0)))) (stRet (evTup (evNil))) (stSkip)) (stSeq (stSetN 4 (evDic true)) (stSeq (stFor (itE (evCall 2 fv_picks [] (agCons (evVar 0) (agCons (evBin fSub (evVar 3) (evC (.int 1))) (agNil))))) (tgName 5) (stSeq (stSet 6 (evCall 2 fv_across [] (agCons (evBin fAdd (evUn fList (evLook 5)) (evUn fList (evLook 1))) (agCons (evVar 2) (agNil))))) (stIf (evT (evBin fNotN (evVar 6) (evC .non))) (stFor (itE (evTup (evCons (evVar 6) (evCons (evCall 2 fv_scaled [] (agCons (evVar 6) (agCons (evUn fNeg (evC (.int 1))) (agNil)))) (evNil))))) (tgName 7) (stIf (evT (evUn fAll (evLc [8] (itN 0) (tgName 8) (evYes) (evBin (fCmp geZ) (evCall 2 fv_dot [] (agCons (evVar 7) (agCons (evVar 8) (agNil)))) (evC (.int 0)))))) (stDput 4 (evVar 7) (evC (.bl true))) (stSkip))) (stSkip)))) (stRet (evUn fTuple (evUn fSorted (evLook 4)))))))
def fv_side_rows : Fv := fvOf 6 g_side_rows
def g_is_edge : TSv := stRet (evBin fEq (evCall 2 fv_whole_rank [] (agCons (evBin fAdd (evLc [4] (itN 1) (tgName 4) (evT (evBin fEq (evCall 2 fv_dot [] (agCons (evVar 4) (agCons (evVar 0) (agNil)))) (evC (.int 0)))) (evVar 4)) (evUn fList (evLook 2))) (agCons (evVar 3) (agNil)))) (evBin fSub (evVar 3) (evC (.int 1))))
def fv_is_edge : Fv := fvOf 1 g_is_edge
def g_Cone___init__ : TSv := stSeq (stExpr (evCall 3 fv_check_from [] (agCons (evVar 1) (agCons (evC (.int 1)) (agCons (evC (.int 4)) (agNil)))))) (stSeq (stIf (evOr (evNot (evT (evUn fIsiLT (evLook 2)))) (evT (evBin (fCmp gtZ) (evUn fLen (evLook 2)) (evC (.int 14))))) (stNo) (stSkip)) (stSeq (stFor (itE (evVar 2)) (tgName 3) (stExpr (evCall 2 fv_check_vector [] (agCons (evVar 3) (agCons (evVar 1) (agNil)))))) (stSeq (stSet 4 (evUn fSortSet (evLc [3] (itN 2) (tgName 3) (evNot (evT (evCall 1 fv_is_null [] (agCons (evVar 3) (agNil))))) (evCall 1 fv_primitive [] (agCons (evVar 3) (agNil)))))) (stSeq (stFld 1 0 (evVar 1)) (stSeq (stFld 1 1 (evCall 2 fv_null_rows [] (agCons (evVar 4) (agCons (evVar 1) (agNil))))) (stSeq (stFld 1 2 (evBin fSub (evVar 1) (evUn fLen (evFld [1] 1 (evLook 0))))) (stSeq (stFld 1 3 (evCall 3 fv_side_rows [] (agCons (evVar 4) (agCons (evFld [1] 1 (evLook 0)) (agCons (evVar 1) (agNil)))))) (stSeq (stIf (evAnd (evT (evBin (fCmp gtZ) (evFld [1] 2 (evLook 0)) (evC (.int 0)))) (evT (evBin fNe (evCall 2 fv_whole_rank [] (agCons (evFld [1] 3 (evLook 0)) (agCons (evVar 1) (agNil)))) (evFld [1] 2 (evLook 0))))) (stNo) (stSkip)) (stFld 1 4 (evUn fTuple (evLc [3] (itN 4) (tgName 3) (evT (evCall 4 fv_is_edge [] (agCons (evVar 3) (agCons (evFld [1] 3 (evLook 0)) (agCons (evFld [1] 1 (evLook 0)) (agCons (evVar 1) (agNil))))))) (evVar 3))))))))))))
def iv_Cone___init__ : Iv := ivOf 1 2 g_Cone___init__
def g_edges_of : TSv := stSeq (stIf (evT (evBin (fCmp ltZ) (evCall 2 fv_whole_rank [] (agCons (evBin fAdd (evUn fList (evLook 0)) (evUn fList (evLook 1))) (agCons (evVar 2) (agNil)))) (evVar 2))) (stNo) (stSkip)) (stSeq (stPar 3 4 (parN (evDic true) (parE (evCall 2 fv_whole_rank [] (agCons (evVar 1) (agCons (evVar 2) (agNil)))) (parNil)))) (stSeq (stFor (itE (evIf (evT (evBin (fCmp ltZ) (evVar 4) (evVar 2))) (evCall 2 fv_picks [] (agCons (evUn fList (evLook 0)) (agCons (evBin fSub (evBin fSub (evVar 2) (evVar 4)) (evC (.int 1))) (agNil)))) (evLst (evNil)))) (tgName 5) (stSeq (stSet 6 (evCall 2 fv_across [] (agCons (evBin fAdd (evUn fList (evLook 5)) (evUn fList (evLook 1))) (agCons (evVar 2) (agNil))))) (stIf (evT (evBin fNotN (evVar 6) (evC .non))) (stFor (itE (evTup (evCons (evVar 6) (evCons (evCall 2 fv_scaled [] (agCons (evVar 6) (agCons (evUn fNeg (evC (.int 1))) (agNil)))) (evNil))))) (tgName 7) (stIf (evT (evUn fAll (evLc [8] (itN 0) (tgName 8) (evYes) (evBin (fCmp geZ) (evCall 2 fv_dot [] (agCons (evVar 8) (agCons (evVar 7) (agNil)))) (evC (.int 0)))))) (stDput 3 (evVar 7) (evC (.bl true))) (stSkip))) (stSkip)))) (stRet (evUn fSorted (evLook 3)))))
def fv_edges_of : Fv := fvOf 6 g_edges_of
def g_crossing_rays : TSv := stSeq (stSet 2 (evCall 2 fv_normal_form [] (agCons (evBin fAdd (evUn fList (evFld [1] 1 (evLook 0))) (evUn fList (evFld [1] 1 (evLook 1)))) (agCons (evFld [1] 0 (evLook 0)) (agNil))))) (stRet (evCall 3 fv_edges_of [] (agCons (evBin fAdd (evUn fList (evFld [1] 3 (evLook 0))) (evUn fList (evFld [1] 3 (evLook 1)))) (agCons (evUn fList (evLook 2)) (agCons (evFld [1] 0 (evLook 0)) (agNil))))))
def fv_crossing_rays : Fv := fvOf 1 g_crossing_rays
def g_is_places : TSv := stSeq (stIf (evOr (evNot (evT (evUn (fIsi 4) (evLook 0)))) (evNot (evT (evUn fAll (evLc [2] (itN 0) (tgName 2) (evYes) (evAndV (evCall 1 fv_is_integer [] (agCons (evVar 2) (agNil))) (evChain (fCmp leZ) (fCmp ltZ) (evC (.int 0)) (evVar 2) (evVar 1)))))))) (stRet (evC (.bl false))) (stSkip)) (stRet (evUn fAll (evLc [3, 4] (itZip false (agName 0 (agCons (evSl (evVar 0) (evP (evC (.int 1))) (evNoP)) (agNil)))) (tgTup 2 (tgCons (tgName 3) (tgCons (tgName 4) (tgNil)))) (evYes) (evBin (fCmp ltZ) (evVar 3) (evVar 4)))))
def fv_is_places : Fv := fvOf 3 g_is_places
def g_made_cone : TSv := stSeq (stIf (evT (evBin (fCmp gtZ) (evUn fLen (evLook 2)) (evC (.int 14)))) (stNo) (stSkip)) (stSeq (stSet 3 (evMake 1 2 iv_Cone___init__ [] (agCons (evVar 0) (agCons (evLc [4] (itN 2) (tgName 4) (evYes) (evIxN 1 (evVar 4))) (agNil))))) (stSeq (stIf (evT (evBin fNe (evUn fLen (evFld [1] 4 (evLook 3))) (evUn fLen (evLook 2)))) (stNo) (stSkip)) (stRet (evVar 3))))
def fv_made_cone : Fv := fvOf 2 g_made_cone
def g_are_face : TSv := stSeq (stIf (evNot (evT (evUn fAll (evLc [2] (itN 0) (tgName 2) (evYes) (evBin (fIn false) (evVar 2) (evFld [1] 4 (evLook 1))))))) (stRet (evC (.bl false))) (stSkip)) (stSeq (stSet 3 (evLc [4] (itE (evFld [1] 3 (evLook 1))) (tgName 4) (evT (evUn fAll (evLc [2] (itN 0) (tgName 2) (evYes) (evBin fEq (evCall 2 fv_dot [] (agCons (evVar 4) (agCons (evVar 2) (agNil)))) (evC (.int 0)))))) (evVar 4))) (stRet (evUn fAll (evLc [2] (itE (evFld [1] 4 (evLook 1))) (tgName 2) (evYes) (evOrV (evBin (fIn false) (evVar 2) (evVar 0)) (evUn fAny (evLc [4] (itN 3) (tgName 4) (evYes) (evBin fNe (evCall 2 fv_dot [] (agCons (evVar 4) (agCons (evVar 2) (agNil)))) (evC (.int 0))))))))))
def fv_are_face : Fv := fvOf 3 g_are_face
def g_check_meeting : TSv := stFor (itEnum true (agName 0 (agNil))) (tgTup 2 (tgCons (tgName 1) (tgCons (tgName 2) (tgNil)))) (stFor (itE (evSl (evVar 0) (evNoP) (evP (evVar 1)))) (tgName 3) (stSeq (stSet 4 (evCall 2 fv_crossing_rays [] (agCons (evVar 2) (agCons (evVar 3) (agNil))))) (stIf (evOr (evNot (evT (evCall 2 fv_are_face [] (agCons (evVar 4) (agCons (evVar 2) (agNil)))))) (evOr (evNot (evT (evCall 2 fv_are_face [] (agCons (evVar 4) (agCons (evVar 3) (agNil)))))) (evT (evBin (fIn false) (evUn fLen (evLook 4)) (evTup (evCons (evUn fLen (evFld [1] 4 (evLook 2))) (evCons (evUn fLen (evFld [1] 4 (evLook 3))) (evNil)))))))) (stNo) (stSkip))))
def fv_check_meeting : Fv := fvOf 4 g_check_meeting
def g_Fan___init__ : TSv := stSeq (stExpr (evCall 3 fv_check_from [] (agCons (evVar 1) (agCons (evC (.int 1)) (agCons (evC (.int 4)) (agNil)))))) (stSeq (stIf (evOr (evNot (evT (evUn (fIsi 4) (evLook 2)))) (evT (evBin (fCmp gtZ) (evUn fLen (evLook 2)) (evC (.int 40))))) (stNo) (stSkip)) (stSeq (stIf (evOr (evNot (evT (evUn (fIsi 4) (evLook 3)))) (evNot (evT (evChain (fCmp leZ) (fCmp leZ) (evC (.int 1)) (evUn fLen (evLook 3)) (evC (.int 60)))))) (stNo) (stSkip)) (stSeq (stFor (itE (evVar 2)) (tgName 4) (stSeq (stExpr (evCall 2 fv_check_vector [] (agCons (evVar 4) (agCons (evVar 1) (agNil))))) (stIf (evOr (evT (evCall 1 fv_is_null [] (agCons (evVar 4) (agNil)))) (evT (evBin fNe (evCall 1 fv_primitive [] (agCons (evVar 4) (agNil))) (evVar 4)))) (stNo) (stSkip)))) (stSeq (stIf (evOr (evT (evBin fNe (evUn fLenSet (evLook 2)) (evUn fLen (evLook 2)))) (evNot (evT (evUn fAll (evLc [5] (itN 3) (tgName 5) (evYes) (evCall 2 fv_is_places [] (agCons (evVar 5) (agCons (evUn fLen (evLook 2)) (agNil))))))))) (stNo) (stSkip)) (stSeq (stSetN 6 (evDic false)) (stSeq (stFor (itE (evVar 3)) (tgName 5) (stFor (itE (evVar 5)) (tgName 7) (stDput 6 (evVar 7) (evC (.bl true))))) (stSeq (stIf (evOr (evT (evBin fNe (evUn fLen (evLook 6)) (evUn fLen (evLook 2)))) (evT (evBin fNe (evUn fLenSet (evLook 3)) (evUn fLen (evLook 3))))) (stNo) (stSkip)) (stSeq (stFld 2 0 (evVar 1)) (stSeq (stFld 2 1 (evVar 2)) (stSeq (stFld 2 2 (evUn fTuple (evUn fSorted (evLook 3)))) (stSeq (stFld 2 3 (evUn fTuple (evLc [5] (itE (evFld [2] 2 (evLook 0))) (tgName 5) (evYes) (evCall 3 fv_made_cone [] (agCons (evVar 1) (agCons (evVar 2) (agCons (evVar 5) (agNil)))))))) (stExpr (evCall 1 fv_check_meeting [] (agCons (evFld [2] 3 (evLook 0)) (agNil)))))))))))))))
def iv_Fan___init__ : Iv := ivOf 2 4 g_Fan___init__
def g_projective : TSv := stSeq (stExpr (evCall 3 fv_check_from [] (agCons (evVar 0) (agCons (evC (.int 1)) (agCons (evC (.int 4)) (agNil)))))) (stSeq (stSet 1 (evBin fAdd (evLc [3] (itR1 (evCons (evVar 0) (evNil))) (tgName 3) (evYes) (evUn fTuple (evLc [2] (itR1 (evCons (evVar 0) (evNil))) (tgName 2) (evYes) (evUn fInt (evBin fEq (evVar 2) (evVar 3)))))) (evLst (evCons (evBin fMul (evTup (evCons (evUn fNeg (evC (.int 1))) (evNil))) (evVar 0)) (evNil))))) (stRet (evMake 2 3 iv_Fan___init__ [] (agCons (evVar 0) (agCons (evUn fTuple (evLook 1)) (agCons (evUn fTuple (evLc [4] (itR1 (evCons (evBin fAdd (evVar 0) (evC (.int 1))) (evNil))) (tgName 4) (evYes) (evUn fTuple (evLc [3] (itR1 (evCons (evBin fAdd (evVar 0) (evC (.int 1))) (evNil))) (tgName 3) (evT (evBin fNe (evVar 3) (evVar 4))) (evVar 3))))) (agNil)))))))
def fv_projective : Fv := fvOf 4 g_projective
def g_round_fan : TSv := stSeq (stIf (evOr (evNot (evT (evUn (fIsi 4) (evLook 0)))) (evNot (evT (evChain (fCmp leZ) (fCmp leZ) (evC (.int 3)) (evUn fLen (evLook 0)) (evC (.int 40)))))) (stNo) (stSkip)) (stSeq (stFor (itE (evVar 0)) (tgName 1) (stExpr (evCall 2 fv_check_vector [] (agCons (evVar 1) (agCons (evC (.int 2)) (agNil)))))) (stSeq (stSet 2 (evUn fLen (evLook 0))) (stSeq (stIf (evNot (evT (evUn fAll (evLc [3] (itR1 (evCons (evVar 2) (evNil))) (tgName 3) (evYes) (evBin (fCmp gtZ) (evBin fSub (evBin fMul (evIx (evIxN 0 (evVar 3)) (evC (.int 0))) (evIx (evIxN 0 (evBin fMod (evBin fAdd (evVar 3) (evC (.int 1))) (evVar 2))) (evC (.int 1)))) (evBin fMul (evIx (evIxN 0 (evVar 3)) (evC (.int 1))) (evIx (evIxN 0 (evBin fMod (evBin fAdd (evVar 3) (evC (.int 1))) (evVar 2))) (evC (.int 0))))) (evC (.int 0))))))) (stNo) (stSkip)) (stRet (evMake 2 3 iv_Fan___init__ [] (agCons (evC (.int 2)) (agCons (evVar 0) (agCons (evUn fTuple (evLc [3] (itR1 (evCons (evVar 2) (evNil))) (tgName 3) (evYes) (evUn fTuple (evUn fSorted (evTup (evCons (evVar 3) (evCons (evBin fMod (evBin fAdd (evVar 3) (evC (.int 1))) (evVar 2)) (evNil)))))))) (agNil)))))))))
def fv_round_fan : Fv := fvOf 3 g_round_fan
def g_ruled : TSv := stSeq (stExpr (evCall 3 fv_check_from [] (agCons (evVar 0) (agCons (evC (.int 0)) (agCons (evC (.int 50)) (agNil)))))) (stRet (evCall 1 fv_round_fan [] (agCons (evTup (evCons (evTup (evCons (evC (.int 1)) (evCons (evC (.int 0)) (evNil)))) (evCons (evTup (evCons (evC (.int 0)) (evCons (evC (.int 1)) (evNil)))) (evCons (evTup (evCons (evUn fNeg (evC (.int 1))) (evCons (evVar 0) (evNil)))) (evCons (evTup (evCons (evC (.int 0)) (evCons (evUn fNeg (evC (.int 1))) (evNil)))) (evNil)))))) (agNil))))
def fv_ruled : Fv := fvOf 0 g_ruled
def g_Ratio___init__ : TSv := stSeq (stIf (evOr (evNot (evT (evCall 1 fv_is_integer [] (agCons (evVar 1) (agNil))))) (evNot (evT (evCall 1 fv_is_integer [] (agCons (evVar 2) (agNil)))))) (stNo) (stSkip)) (stSeq (stIf (evT (evBin fEq (evVar 2) (evC (.int 0)))) (stNo) (stSkip)) (stSeq (stIf (evT (evBin (fCmp ltZ) (evVar 2) (evC (.int 0)))) (stPar 1 2 (parE (evUn fNeg (evVar 1)) (parE (evUn fNeg (evVar 2)) (parNil)))) (stSkip)) (stSeq (stSet 3 (evCall 2 fv_common [] (agCons (evVar 1) (agCons (evVar 2) (agNil))))) (stSeq (stFld 0 0 (evBin fDiv (evVar 1) (evVar 3))) (stFld 0 1 (evBin fDiv (evVar 2) (evVar 3)))))))
def iv_Ratio___init__ : Iv := ivOf 0 1 g_Ratio___init__
def g_Ratio___eq__ : TSv := stRet (evAndV (evUn (fIsi 10) (evLook 1)) (evAndV (evBin fEq (evFld [0] 0 (evLook 0)) (evFld [0] 0 (evLook 1))) (evBin fEq (evFld [0] 1 (evLook 0)) (evFld [0] 1 (evLook 1)))))
def fv_Ratio___eq__ : Fv := fvOf 0 g_Ratio___eq__
def g_Cone___eq__ : TSv := stRet (evAndV (evUn (fIsi 11) (evLook 1)) (evBin fEq (evTup (evCons (evFld [1] 0 (evLook 0)) (evCons (evFld [1] 4 (evLook 0)) (evNil)))) (evTup (evCons (evFld [1] 0 (evLook 1)) (evCons (evFld [1] 4 (evLook 1)) (evNil))))))
def fv_Cone___eq__ : Fv := fvOf 0 g_Cone___eq__
def g_Fan___eq__ : TSv := stSeq (stIf (evNot (evT (evUn (fIsi 12) (evLook 1)))) (stRet (evC (.bl false))) (stSkip)) (stRet (evBin fEq (evTup (evCons (evFld [2] 0 (evLook 0)) (evCons (evFld [2] 1 (evLook 0)) (evCons (evFld [2] 2 (evLook 0)) (evNil))))) (evTup (evCons (evFld [2] 0 (evLook 1)) (evCons (evFld [2] 1 (evLook 1)) (evCons (evFld [2] 2 (evLook 1)) (evNil)))))))
def fv_Fan___eq__ : Fv := fvOf 0 g_Fan___eq__
def eqs : Nat → Fv
  | 0 => fv_Ratio___eq__
  | 1 => fv_Cone___eq__
  | 2 => fv_Fan___eq__
  | _ => fun _ _ => none
def g__law_take : TSv := stSeq (stIf (evT (evBin (fCmp gtZ) (evIxN 0 (evC (.int 0))) (evC (.int 0)))) (stSeq (stSet 2 (evBin fMod (evUn fInt (evIxN 0 (evC (.int 0)))) (evVar 1))) (stSeq (stSetIx 0 (evC (.int 0)) (evBin fDiv (evIxN 0 (evC (.int 0))) (evVar 1))) (stRet (evVar 2)))) (stSkip)) (stSeq (stSetIx 0 (evC (.int 1)) (evBin fMod (evUn fInt (evBin fAdd (evBin fMul (evIxN 0 (evC (.int 1))) (evC (.int 48271))) (evC (.int 11)))) (evC (.int 2147483647)))) (stRet (evBin fMod (evUn fInt (evBin fDiv (evIxN 0 (evC (.int 1))) (evC (.int 7)))) (evVar 1))))
def fv__law_take : Fv := fvOf 1 g__law_take
def g__law_says : TSv := stRet (evAndV (evUn (fIsi 1) (evLook 0)) (evBin fEq (evVar 0) (evVar 1)))
def fv__law_says : Fv := fvOf 0 g__law_says
def g__law_asked : TSv := stSeq (stIf (evOr (evNot (evT (evCall 2 fv__law_says [] (agCons (evEqU eqs (evVar 0) (evVar 1)) (agCons (evC (.bl true)) (agNil)))))) (evNot (evT (evCall 2 fv__law_says [] (agCons (evEqU eqs (evVar 1) (evVar 0)) (agCons (evC (.bl true)) (agNil))))))) (stRet (evC (.bl false))) (stSkip)) (stRet (evUn fAll (evLc [3] (itN 2) (tgName 3) (evYes) (evAndV (evCall 2 fv__law_says [] (agCons (evEqU eqs (evVar 0) (evVar 3)) (agCons (evC (.bl false)) (agNil)))) (evCall 2 fv__law_says [] (agCons (evEqU eqs (evVar 3) (evVar 0)) (agCons (evC (.bl false)) (agNil))))))))
def fv__law_asked : Fv := fvOf 1 g__law_asked
def g1__law_ratios_go : TSv := stPar3 1 2 3 (parE (evBin fSub (evCall 2 fv__law_take [] (agCons (evVar 0) (agCons (evC (.int 41)) (agNil)))) (evC (.int 20))) (parE (evBin fAdd (evC (.int 1)) (evCall 2 fv__law_take [] (agCons (evVar 0) (agCons (evC (.int 12)) (agNil))))) (parE (evBin fAdd (evC (.int 2)) (evCall 2 fv__law_take [] (agCons (evVar 0) (agCons (evC (.int 9)) (agNil))))) (parNil))))
def g2__law_ratios_go : TSv := stSeq (stSet 4 (evMake 0 2 iv_Ratio___init__ [] (agCons (evVar 1) (agCons (evVar 2) (agNil))))) (stSeq (stSet 5 (evLst (evCons (evMake 0 2 iv_Ratio___init__ [] (agCons (evBin fAdd (evVar 1) (evVar 2)) (agCons (evVar 2) (agNil)))) (evCons (evMake 0 2 iv_Ratio___init__ [] (agCons (evBin fAdd (evBin fMul (evVar 1) (evVar 3)) (evC (.int 1))) (agCons (evBin fMul (evVar 2) (evVar 3)) (agNil)))) (evCons (evMake 0 2 iv_Ratio___init__ [] (agCons (evBin fSub (evUn fNeg (evVar 1)) (evC (.int 1))) (agCons (evVar 2) (agNil)))) (evCons (evC .non) (evCons (evC (.str "1")) (evCons (evTup (evCons (evFld [0] 0 (evLook 4)) (evCons (evFld [0] 1 (evLook 4)) (evNil)))) (evCons (evBin fAdd (evBin fMul (evVar 1) (evVar 2)) (evC (.int 7))) (evNil)))))))))) (stRet (evAndV (evCall 3 fv__law_asked [] (agCons (evVar 4) (agCons (evMake 0 2 iv_Ratio___init__ [] (agCons (evBin fMul (evUn fNeg (evVar 3)) (evVar 1)) (agCons (evBin fMul (evUn fNeg (evVar 3)) (evVar 2)) (agNil)))) (agCons (evVar 5) (agNil))))) (evAndV (evBin fEq (evBin fMul (evFld [0] 0 (evLook 4)) (evVar 2)) (evBin fMul (evVar 1) (evFld [0] 1 (evLook 4)))) (evBin (fCmp gtZ) (evFld [0] 1 (evLook 4)) (evC (.int 0)))))))
def g__law_ratios_go : TSv := stSeq g1__law_ratios_go g2__law_ratios_go
def fv__law_ratios_go : Fv := fvOf 5 g__law_ratios_go
def g1__law_cones_go : TSv := stPar 1 2 (parE (evBin fSub (evCall 2 fv__law_take [] (agCons (evVar 0) (agCons (evC (.int 7)) (agNil)))) (evC (.int 3))) (parE (evBin fAdd (evC (.int 1)) (evCall 2 fv__law_take [] (agCons (evVar 0) (agCons (evC (.int 3)) (agNil))))) (parNil)))
def g2__law_cones_go : TSv := stSeq (stSet 3 (evMake 1 2 iv_Cone___init__ [] (agCons (evC (.int 2)) (agCons (evTup (evCons (evTup (evCons (evC (.int 1)) (evCons (evC (.int 0)) (evNil)))) (evCons (evTup (evCons (evVar 1) (evCons (evVar 2) (evNil)))) (evNil)))) (agNil))))) (stSeq (stSet 4 (evLst (evCons (evMake 1 2 iv_Cone___init__ [] (agCons (evC (.int 2)) (agCons (evTup (evCons (evTup (evCons (evC (.int 1)) (evCons (evC (.int 0)) (evNil)))) (evNil))) (agNil)))) (evCons (evMake 1 2 iv_Cone___init__ [] (agCons (evC (.int 2)) (agCons (evTup (evCons (evTup (evCons (evC (.int 1)) (evCons (evC (.int 0)) (evNil)))) (evCons (evTup (evCons (evBin fSub (evVar 1) (evC (.int 1))) (evCons (evVar 2) (evNil)))) (evNil)))) (agNil)))) (evCons (evMake 1 2 iv_Cone___init__ [] (agCons (evC (.int 2)) (agCons (evTup (evCons (evTup (evCons (evUn fNeg (evC (.int 1))) (evCons (evC (.int 0)) (evNil)))) (evCons (evTup (evCons (evVar 1) (evCons (evVar 2) (evNil)))) (evNil)))) (agNil)))) (evCons (evMake 1 2 iv_Cone___init__ [] (agCons (evC (.int 3)) (agCons (evTup (evCons (evTup (evCons (evC (.int 1)) (evCons (evC (.int 0)) (evCons (evC (.int 0)) (evNil))))) (evCons (evTup (evCons (evVar 1) (evCons (evVar 2) (evCons (evC (.int 0)) (evNil))))) (evNil)))) (agNil)))) (evCons (evC .non) (evCons (evC (.int 5)) (evCons (evFld [1] 4 (evLook 3)) (evCons (evTup (evCons (evC (.int 2)) (evCons (evFld [1] 4 (evLook 3)) (evNil)))) (evNil))))))))))) (stRet (evAndV (evCall 3 fv__law_asked [] (agCons (evVar 3) (agCons (evMake 1 2 iv_Cone___init__ [] (agCons (evC (.int 2)) (agCons (evLst (evCons (evTup (evCons (evBin fMul (evC (.int 2)) (evVar 1)) (evCons (evBin fMul (evC (.int 2)) (evVar 2)) (evNil)))) (evCons (evTup (evCons (evC (.int 3)) (evCons (evC (.int 0)) (evNil)))) (evCons (evTup (evCons (evBin fAdd (evVar 1) (evC (.int 1))) (evCons (evVar 2) (evNil)))) (evNil))))) (agNil)))) (agCons (evVar 4) (agNil))))) (evBin fEq (evFld [1] 0 (evLook 3)) (evC (.int 2))))))
def g__law_cones_go : TSv := stSeq g1__law_cones_go g2__law_cones_go
def fv__law_cones_go : Fv := fvOf 4 g__law_cones_go
def g1__law_fans_go : TSv := stAsg (evTup (evCons (evCall 2 fv__law_take [] (agCons (evVar 0) (agCons (evC (.int 6)) (agNil)))) (evCons (evBin fAdd (evC (.int 1)) (evCall 2 fv__law_take [] (agCons (evVar 0) (agCons (evC (.int 3)) (agNil))))) (evNil)))) (tgTup 2 (tgCons (tgName 1) (tgCons (tgName 2) (tgNil))))
def g2__law_fans_go : TSv := stSeq (stSet 3 (evCall 1 fv_ruled [] (agCons (evVar 1) (agNil)))) (stSeq (stPar 4 5 (parE (evFld [2] 1 (evLook 3)) (parE (evFld [2] 2 (evLook 3)) (parNil)))) (stSeq (stSet 6 (evBin fAdd (evSl (evVar 4) (evP (evVar 2)) (evNoP)) (evSl (evVar 4) (evNoP) (evP (evVar 2))))) (stSeq (stSet 7 (evMake 2 3 iv_Fan___init__ [] (agCons (evC (.int 2)) (agCons (evVar 6) (agCons (evUn fTuple (evUn fSorted (evLc [9] (itN 5) (tgName 9) (evYes) (evUn fTuple (evUn fSorted (evLc [8] (itN 9) (tgName 8) (evYes) (evBin fMod (evUn fInt (evBin fSub (evVar 8) (evVar 2))) (evC (.int 4))))))))) (agNil)))))) (stSeq (stSetN 10 (evLst (evCons (evCall 1 fv_ruled [] (agCons (evBin fAdd (evVar 1) (evC (.int 1))) (agNil))) (evCons (evCall 1 fv_projective [] (agCons (evC (.int 2)) (agNil))) (evCons (evVar 7) (evCons (evC .non) (evCons (evC (.int 5)) (evCons (evVar 4) (evCons (evTup (evCons (evC (.int 2)) (evCons (evVar 4) (evCons (evVar 5) (evNil))))) (evNil)))))))))) (stSeq (stIf (evT (evBin (fCmp gtZ) (evVar 1) (evC (.int 0)))) (stApp 10 (evCall 1 fv_ruled [] (agCons (evC (.int 0)) (agNil)))) (stSkip)) (stRet (evAndV (evCall 3 fv__law_asked [] (agCons (evVar 3) (agCons (evMake 2 3 iv_Fan___init__ [] (agCons (evC (.int 2)) (agCons (evUn fTuple (evUn fList (evLook 4))) (agCons (evUn fTuple (evUn fList (evLook 5))) (agNil))))) (agName 10 (agNil))))) (evAndV (evBin fEq (evFld [2] 1 (evLook 7)) (evVar 6)) (evBin fNe (evFld [2] 1 (evCall 1 fv_ruled [] (agCons (evBin fAdd (evVar 1) (evC (.int 1))) (agNil)))) (evVar 4))))))))))
def g__law_fans_go : TSv := stSeq g1__law_fans_go g2__law_fans_go
def fv__law_fans_go : Fv := fvOf 10 g__law_fans_go
end Ev

set_option maxHeartbeats 4000000
namespace Ev
open PySem L2 PySem.Spec PyProof.Rows
/-- the text by places -/
def top (i : Nat) : Stmt := PySem.Challenge.pw_fanroads_k44_whole_what_is_equal_and_wha.main.body.getD i (.Pass ⟨0, 0, 0, 0⟩)
structure Txt (K : PySem.W.Frag) (mg : Str → Option Value) (cA : Nat → Addr) : Prop where
  b_abs : mg "abs" = none
  b_all : mg "all" = none
  b_any : mg "any" = none
  b_bool : mg "bool" = none
  b_enumerate : mg "enumerate" = none
  b_int : mg "int" = none
  b_isinstance : mg "isinstance" = none
  b_len : mg "len" = none
  b_list : mg "list" = none
  b_range : mg "range" = none
  b_set : mg "set" = none
  b_sorted : mg "sorted" = none
  b_sum : mg "sum" = none
  b_tuple : mg "tuple" = none
  b_zip : mg "zip" = none
  k_MOST_CONES : ∃ u v, mg "MOST_CONES" = some u ∧ RelV v u ∧ ∀ ast F, RelD cA ast F (.int 60) v
  k_MOST_ITEM : ∃ u v, mg "MOST_ITEM" = some u ∧ RelV v u ∧ ∀ ast F, RelD cA ast F (.int 100000) v
  k_MOST_MAKERS : ∃ u v, mg "MOST_MAKERS" = some u ∧ RelV v u ∧ ∀ ast F, RelD cA ast F (.int 14) v
  m_Ratio : mg "Ratio" = some (.ref (cA 0))
  m_Cone : mg "Cone" = some (.ref (cA 1))
  m_Fan : mg "Fan" = some (.ref (cA 2))
  f_0_0 : FldOk K cA 0 0 "n"
  f_0_1 : FldOk K cA 0 1 "d"
  f_1_0 : FldOk K cA 1 0 "n"
  f_1_1 : FldOk K cA 1 1 "zeros"
  f_1_2 : FldOk K cA 1 2 "dim"
  f_1_3 : FldOk K cA 1 3 "sides"
  f_1_4 : FldOk K cA 1 4 "rays"
  f_2_0 : FldOk K cA 2 0 "n"
  f_2_1 : FldOk K cA 2 1 "rays"
  f_2_2 : FldOk K cA 2 2 "cones"
  f_2_3 : FldOk K cA 2 3 "parts"
  tys : TysOk K cA
section
variable {P : Program} {w : World} {K : PySem.W.Frag} {mg : Str → Option Value} {base : Heap} {cA : Nat → Addr}
abbrev s_is_integer : Stmt := top 8
abbrev nm_is_integer : List Str := ["value"]
abbrev ps_is_integer : List Str := ["value"]
theorem sc_is_integer : FnScope nm_is_integer ps_is_integer (defScope s_is_integer) := ⟨rfl, rfl, rfl, by decide +kernel, rfl, by decide +kernel, by decide +kernel⟩
theorem ok_is_integer (T : Txt K mg cA) (D : DefE K mg "is_integer" s_is_integer ps_is_integer) : CalE P w K mg base cA 2 "is_integer" 1 fv_is_integer :=
  D.cal (N := nm_is_integer) (m := 0) (k := 1) sc_is_integer rfl rfl fun f cdv A outer s H E hr => by
    exact pSs_one (pS_ret (pE_and (pE_isi (c := 2) T.tys (pe_bltn (by rfl) T.b_int bt_int (v := .ty "int") rfl) (.ty _) (by rfl) T.b_isinstance (pB_var (pv 0) (ltb rfl))) (pE_one (pE_not (pE_isi (c := 1) T.tys (pe_bltn (by rfl) T.b_bool bt_bool (v := .ty "bool") rfl) (.ty _) (by rfl) T.b_isinstance (pB_var (pv 0) (ltb rfl)))))))
abbrev s_check_from : Stmt := top 9
abbrev nm_check_from : List Str := ["n", "low", "high"]
abbrev ps_check_from : List Str := ["n", "low", "high"]
theorem sc_check_from : FnScope nm_check_from ps_check_from (defScope s_check_from) := ⟨rfl, rfl, rfl, by decide +kernel, rfl, by decide +kernel, by decide +kernel⟩
theorem ok_check_from (T : Txt K mg cA) (c_is_integer : CalE P w K mg base cA 2 "is_integer" 1 fv_is_integer) (D : DefE K mg "check_from" s_check_from ps_check_from) : CalE P w K mg base cA 3 "check_from" 3 fv_check_from :=
  D.cal (N := nm_check_from) (m := 0) (k := 2) sc_check_from rfl rfl fun f cdv A outer s H E hr => by
    exact pSs_one (pS_if (PW.pt (pW_or (pT_not (pT_val (pE_c c_is_integer hr rfl (by rfl) (aG_cons (pE_var (pv 0) (ltb rfl)) (aG_nil))))) (pW_or1 (pT_not (pT_chain op_le (o_cmp (p := leZ)) op_le (o_cmp (p := leZ)) (pE_var (pv 1) (ltb rfl)) (pE_var (pv 0) (ltb rfl)) (pE_var (pv 2) (ltb rfl))))))) (pSs_no) (pSs_nil))
abbrev s_common : Stmt := top 10
abbrev nm_common : List Str := ["a", "b"]
abbrev ps_common : List Str := ["a", "b"]
theorem sc_common : FnScope nm_common ps_common (defScope s_common) := ⟨rfl, rfl, rfl, by decide +kernel, rfl, by decide +kernel, by decide +kernel⟩
theorem ok_common (T : Txt K mg cA) (D : DefE K mg "common" s_common ps_common) : CalE P w K mg base cA 2 "common" 2 fv_common :=
  D.cal (N := nm_common) (m := 0) (k := 1) sc_common rfl rfl fun f cdv A outer s H E hr => by
    exact pSs_cons (pS_par (i := 0) (j := 1) rfl sc_common.nd rfl rfl (by decide) rfl rfl (pP_E (pE_callB1 call_abs c_abs (by rfl) T.b_abs bt_abs (pB_var (pv 0) (ltb rfl))) (pP_E (pE_callB1 call_abs c_abs (by rfl) T.b_abs bt_abs (pB_var (pv 1) (ltb rfl))) (pP_nil))) (by rfl)) (pSs_cons (pS_while PassesOwn.never (pT_cmp (op_neD hr.units) o_ne (pE_var (pv 1) (ltb rfl)) (pE_int) (nomark _)) (pSs_one (pS_par (i := 0) (j := 1) rfl sc_common.nd rfl rfl (by decide) rfl rfl (pP_E (pE_var (pv 1) (ltb rfl)) (pP_E (pE_bin op_modN o_mod (pE_var (pv 0) (ltb rfl)) (pE_var (pv 1) (ltb rfl))) (pP_nil))) (by rfl)))) (pSs_one (pS_ret (pE_var (pv 0) (ltb rfl)))))
abbrev s_picks : Stmt := top 11
abbrev nm_picks : List Str := ["items", "k", "found", "_", "longer", "own", "at", "i"]
abbrev ps_picks : List Str := ["items", "k"]
theorem sc_picks : FnScope nm_picks ps_picks (defScope s_picks) := ⟨rfl, rfl, rfl, by decide +kernel, rfl, by decide +kernel, by decide +kernel⟩
theorem ok_picks (T : Txt K mg cA) (D : DefE K mg "picks" s_picks ps_picks) : CalE P w K mg base cA 2 "picks" 2 fv_picks :=
  D.cal (N := nm_picks) (m := 6) (k := 1) sc_picks rfl rfl fun f cdv A outer s H E hr => by
    exact pSs_cons (pS_set (i := 2) sc_picks.nd rfl (by first | exact .inl rfl | exact .inr rfl) (pE_lst (pA_cons (pE_tup (pA_cons (pE_tup (pA_nil) rfl (len_nil)) (pA_cons (pE_int) (pA_nil))) rfl (len_cons (len_cons (len_nil)))) (pA_nil)) rfl (len_cons (len_nil)))) (pSs_cons (pS_for (vs := [3]) PassesOwn.never rfl ((pI_r1 (by rfl) T.b_range (pA_cons (pE_var (pv 1) (ltb rfl)) (pA_nil)))) (pG_name (pg_name (i := 3) sc_picks.nd rfl (by first | exact .inl rfl | exact .inr rfl)) (ltb rfl) (by decide)) (pSs_cons (pS_setN (i := 4) sc_picks.nd rfl (by first | exact .inl rfl | exact .inr rfl) (pN_lst (pA_nil) rfl (len_nil))) (pSs_cons (pS_for (vs := [5, 6]) PassesOwn.never rfl ((pI_e (pE_var (pv 2) (ltb rfl)))) (pG_tup rfl (pGs_cons (pG_name (pg_name (i := 5) sc_picks.nd rfl (by first | exact .inl rfl | exact .inr rfl)) (ltb rfl) (by decide)) (pGs_cons (pG_name (pg_name (i := 6) sc_picks.nd rfl (by first | exact .inl rfl | exact .inr rfl)) (ltb rfl) (by decide)) (pGs_nil)))) (pSs_one (pS_ext (pv 4) (ltb rfl) (pE_ofN (pN_lc (own := [("i", 7)]) rfl sc_picks.nd (pJ_of (pI_r2 (by rfl) T.b_range (pA_cons (pE_var (pv 6) (ltb rfl)) (pA_cons (pE_callB1 c_len_all c_len (by rfl) T.b_len bt_len (pB_var (pv 0) (ltb rfl))) (pA_nil))))) (blkOk_by (by kernel_rfl)) (fun _ _ _ _ _ => pG_name (pg_name (i := 7) sc_picks.nd rfl (by first | exact .inl rfl | exact .inr rfl)) (ltb rfl) (by decide)) (fun _ _ _ _ _ => pTs_nil) (fun _ _ _ _ _ => pE_tup (pA_cons (pE_bin opr_add o_add (pE_var (pv 5) (ltb rfl)) (pE_tup (pA_cons (pE_ixN (pv 0) (ltb rfl) (pE_var (pv 7) (ltb rfl)) (by intro _ _; rfl)) (pA_nil)) rfl (len_cons (len_nil)))) (pA_cons (pE_bin opr_add o_add (pE_var (pv 7) (ltb rfl)) (pE_int)) (pA_nil))) rfl (len_cons (len_cons (len_nil))))) lc_lst)))) (pSs_one (pS_set (i := 2) sc_picks.nd rfl (by first | exact .inl rfl | exact .inr rfl) (pE_var (pv 4) (ltb rfl))))))) (pSs_one (pS_ret (pE_ofN (pN_lc (own := [("own", 5), ("_", 3)]) rfl sc_picks.nd (pJ_n (pv 2) (ltb rfl)) (blkOk_by (by kernel_rfl)) (fun _ _ _ _ _ => pG_tup rfl (pGs_cons (pG_name (pg_name (i := 5) sc_picks.nd rfl (by first | exact .inl rfl | exact .inr rfl)) (ltb rfl) (by decide)) (pGs_cons (pG_name (pg_name (i := 3) sc_picks.nd rfl (by first | exact .inl rfl | exact .inr rfl)) (ltb rfl) (by decide)) (pGs_nil)))) (fun _ _ _ _ _ => pTs_nil) (fun _ _ _ _ _ => pE_var (pv 5) (ltb rfl))) lc_lst))))
abbrev s_is_vector : Stmt := top 12
abbrev nm_is_vector : List Str := ["value", "n", "x"]
abbrev ps_is_vector : List Str := ["value", "n"]
theorem sc_is_vector : FnScope nm_is_vector ps_is_vector (defScope s_is_vector) := ⟨rfl, rfl, rfl, by decide +kernel, rfl, by decide +kernel, by decide +kernel⟩
theorem ok_is_vector (T : Txt K mg cA) (c_is_integer : CalE P w K mg base cA 2 "is_integer" 1 fv_is_integer) (D : DefE K mg "is_vector" s_is_vector ps_is_vector) : CalE P w K mg base cA 3 "is_vector" 2 fv_is_vector :=
  D.cal (N := nm_is_vector) (m := 1) (k := 2) sc_is_vector rfl rfl fun f cdv A outer s H E hr => by
    exact pSs_cons (pS_if (PW.pt (pW_or (pT_not (pT_val (pE_isi (c := 4) T.tys (pe_bltn (by rfl) T.b_tuple bt_tuple (v := .ty "tuple") rfl) (.ty _) (by rfl) T.b_isinstance (pB_var (pv 0) (ltb rfl))))) (pW_or1 (pT_cmp (op_neD hr.units) o_ne (pE_callB1 c_len_all c_len (by rfl) T.b_len bt_len (pB_var (pv 0) (ltb rfl))) (pE_var (pv 1) (ltb rfl)) (nomark _))))) (pSs_one (pS_ret (pE_bl))) (pSs_nil)) (pSs_one (pS_ret (pE_callB1 (cr_all rfl) c_all (by rfl) T.b_all bt_all (pB_of (pE_ofN (pN_lc (own := [("x", 2)]) rfl sc_is_vector.nd (pJ_n (pv 0) (ltb rfl)) (blkOk_by (by kernel_rfl)) (fun _ _ _ _ _ => pG_name (pg_name (i := 2) sc_is_vector.nd rfl (by first | exact .inl rfl | exact .inr rfl)) (ltb rfl) (by decide)) (fun _ _ _ _ _ => pTs_nil) (fun _ _ _ _ _ => pE_and (pE_c c_is_integer hr rfl (by rfl) (aG_cons (pE_var (pv 2) (ltb rfl)) (aG_nil))) (pE_one (pE_cmp op_le (o_cmp (p := leZ)) (pE_callB1 call_abs c_abs (by rfl) T.b_abs bt_abs (pB_var (pv 2) (ltb rfl))) (pE_gc (by rfl) T.k_MOST_ITEM) (nomark _))))) lc_lst)))))
abbrev s_check_vector : Stmt := top 13
abbrev nm_check_vector : List Str := ["value", "n"]
abbrev ps_check_vector : List Str := ["value", "n"]
theorem sc_check_vector : FnScope nm_check_vector ps_check_vector (defScope s_check_vector) := ⟨rfl, rfl, rfl, by decide +kernel, rfl, by decide +kernel, by decide +kernel⟩
theorem ok_check_vector (T : Txt K mg cA) (c_is_vector : CalE P w K mg base cA 3 "is_vector" 2 fv_is_vector) (D : DefE K mg "check_vector" s_check_vector ps_check_vector) : CalE P w K mg base cA 4 "check_vector" 2 fv_check_vector :=
  D.cal (N := nm_check_vector) (m := 0) (k := 3) sc_check_vector rfl rfl fun f cdv A outer s H E hr => by
    exact pSs_one (pS_if (pT_not (pT_val (pE_c c_is_vector hr rfl (by rfl) (aG_cons (pE_var (pv 0) (ltb rfl)) (aG_cons (pE_var (pv 1) (ltb rfl)) (aG_nil)))))) (pSs_no) (pSs_nil))
abbrev s_is_null : Stmt := top 14
abbrev nm_is_null : List Str := ["v", "x"]
abbrev ps_is_null : List Str := ["v"]
theorem sc_is_null : FnScope nm_is_null ps_is_null (defScope s_is_null) := ⟨rfl, rfl, rfl, by decide +kernel, rfl, by decide +kernel, by decide +kernel⟩
theorem ok_is_null (T : Txt K mg cA) (D : DefE K mg "is_null" s_is_null ps_is_null) : CalE P w K mg base cA 2 "is_null" 1 fv_is_null :=
  D.cal (N := nm_is_null) (m := 1) (k := 1) sc_is_null rfl rfl fun f cdv A outer s H E hr => by
    exact pSs_one (pS_ret (pE_callB1 (cr_all rfl) c_all (by rfl) T.b_all bt_all (pB_of (pE_ofN (pN_lc (own := [("x", 1)]) rfl sc_is_null.nd (pJ_n (pv 0) (ltb rfl)) (blkOk_by (by kernel_rfl)) (fun _ _ _ _ _ => pG_name (pg_name (i := 1) sc_is_null.nd rfl (by first | exact .inl rfl | exact .inr rfl)) (ltb rfl) (by decide)) (fun _ _ _ _ _ => pTs_nil) (fun _ _ _ _ _ => pE_cmp (op_eqD hr.units) o_eq (pE_var (pv 1) (ltb rfl)) (pE_int) (nomark _))) lc_lst))))
abbrev s_dot : Stmt := top 15
abbrev nm_dot : List Str := ["u", "v", "a", "b"]
abbrev ps_dot : List Str := ["u", "v"]
theorem sc_dot : FnScope nm_dot ps_dot (defScope s_dot) := ⟨rfl, rfl, rfl, by decide +kernel, rfl, by decide +kernel, by decide +kernel⟩
theorem ok_dot (T : Txt K mg cA) (D : DefE K mg "dot" s_dot ps_dot) : CalE P w K mg base cA 2 "dot" 2 fv_dot :=
  D.cal (N := nm_dot) (m := 2) (k := 1) sc_dot rfl rfl fun f cdv A outer s H E hr => by
    exact pSs_one (pS_ret (pE_callB1 (cr_sum rfl) c_sum (by rfl) T.b_sum bt_sum (pB_of (pE_ofN (pN_lc (own := [("a", 2), ("b", 3)]) rfl sc_dot.nd (pJ_zip (by rfl) T.b_zip (aG_name (pv 0) (ltb rfl) (aG_name (pv 1) (ltb rfl) (aG_nil)))) (blkOk_by (by kernel_rfl)) (fun _ _ _ _ _ => pG_tup rfl (pGs_cons (pG_name (pg_name (i := 2) sc_dot.nd rfl (by first | exact .inl rfl | exact .inr rfl)) (ltb rfl) (by decide)) (pGs_cons (pG_name (pg_name (i := 3) sc_dot.nd rfl (by first | exact .inl rfl | exact .inr rfl)) (ltb rfl) (by decide)) (pGs_nil)))) (fun _ _ _ _ _ => pTs_nil) (fun _ _ _ _ _ => pE_bin opr_mul o_mul (pE_var (pv 2) (ltb rfl)) (pE_var (pv 3) (ltb rfl)))) lc_lst))))
abbrev s_scaled : Stmt := top 16
abbrev nm_scaled : List Str := ["u", "c", "a"]
abbrev ps_scaled : List Str := ["u", "c"]
theorem sc_scaled : FnScope nm_scaled ps_scaled (defScope s_scaled) := ⟨rfl, rfl, rfl, by decide +kernel, rfl, by decide +kernel, by decide +kernel⟩
theorem ok_scaled (T : Txt K mg cA) (D : DefE K mg "scaled" s_scaled ps_scaled) : CalE P w K mg base cA 2 "scaled" 2 fv_scaled :=
  D.cal (N := nm_scaled) (m := 1) (k := 1) sc_scaled rfl rfl fun f cdv A outer s H E hr => by
    exact pSs_one (pS_ret (pE_callTy1 call_tuple_of c_tuple (by rfl) T.b_tuple bt_tuple (pB_of (pE_ofN (pN_lc (own := [("a", 2)]) rfl sc_scaled.nd (pJ_n (pv 0) (ltb rfl)) (blkOk_by (by kernel_rfl)) (fun _ _ _ _ _ => pG_name (pg_name (i := 2) sc_scaled.nd rfl (by first | exact .inl rfl | exact .inr rfl)) (ltb rfl) (by decide)) (fun _ _ _ _ _ => pTs_nil) (fun _ _ _ _ _ => pE_bin opr_mul o_mul (pE_var (pv 1) (ltb rfl)) (pE_var (pv 2) (ltb rfl)))) lc_lst))))
abbrev s_common_item : Stmt := top 17
abbrev nm_common_item : List Str := ["v", "found", "x"]
abbrev ps_common_item : List Str := ["v"]
theorem sc_common_item : FnScope nm_common_item ps_common_item (defScope s_common_item) := ⟨rfl, rfl, rfl, by decide +kernel, rfl, by decide +kernel, by decide +kernel⟩
theorem ok_common_item (T : Txt K mg cA) (c_common : CalE P w K mg base cA 2 "common" 2 fv_common) (D : DefE K mg "common_item" s_common_item ps_common_item) : CalE P w K mg base cA 3 "common_item" 1 fv_common_item :=
  D.cal (N := nm_common_item) (m := 2) (k := 2) sc_common_item rfl rfl fun f cdv A outer s H E hr => by
    exact pSs_cons (pS_set (i := 1) sc_common_item.nd rfl (by first | exact .inl rfl | exact .inr rfl) (pE_int)) (pSs_cons (pS_for (vs := [2]) PassesOwn.never rfl ((pI_e (pE_var (pv 0) (ltb rfl)))) (pG_name (pg_name (i := 2) sc_common_item.nd rfl (by first | exact .inl rfl | exact .inr rfl)) (ltb rfl) (by decide)) (pSs_one (pS_set (i := 1) sc_common_item.nd rfl (by first | exact .inl rfl | exact .inr rfl) (pE_c c_common hr rfl (by rfl) (aG_cons (pE_var (pv 1) (ltb rfl)) (aG_cons (pE_var (pv 2) (ltb rfl)) (aG_nil))))))) (pSs_one (pS_ret (pE_var (pv 1) (ltb rfl)))))
abbrev s_primitive : Stmt := top 18
abbrev nm_primitive : List Str := ["v", "g", "x"]
abbrev ps_primitive : List Str := ["v"]
theorem sc_primitive : FnScope nm_primitive ps_primitive (defScope s_primitive) := ⟨rfl, rfl, rfl, by decide +kernel, rfl, by decide +kernel, by decide +kernel⟩
theorem ok_primitive (T : Txt K mg cA) (c_common_item : CalE P w K mg base cA 3 "common_item" 1 fv_common_item) (D : DefE K mg "primitive" s_primitive ps_primitive) : CalE P w K mg base cA 4 "primitive" 1 fv_primitive :=
  D.cal (N := nm_primitive) (m := 2) (k := 3) sc_primitive rfl rfl fun f cdv A outer s H E hr => by
    exact pSs_cons (pS_set (i := 1) sc_primitive.nd rfl (by first | exact .inl rfl | exact .inr rfl) (pE_c c_common_item hr rfl (by rfl) (aG_cons (pE_var (pv 0) (ltb rfl)) (aG_nil)))) (pSs_one (pS_ret (pE_callTy1 call_tuple_of c_tuple (by rfl) T.b_tuple bt_tuple (pB_of (pE_ofN (pN_lc (own := [("x", 2)]) rfl sc_primitive.nd (pJ_n (pv 0) (ltb rfl)) (blkOk_by (by kernel_rfl)) (fun _ _ _ _ _ => pG_name (pg_name (i := 2) sc_primitive.nd rfl (by first | exact .inl rfl | exact .inr rfl)) (ltb rfl) (by decide)) (fun _ _ _ _ _ => pTs_nil) (fun _ _ _ _ _ => pE_bin op_fdivN o_div (pE_var (pv 2) (ltb rfl)) (pE_var (pv 1) (ltb rfl)))) lc_lst)))))
abbrev s_least_at : Stmt := top 24
abbrev nm_least_at : List Str := ["rows", "k", "best", "i", "row"]
abbrev ps_least_at : List Str := ["rows", "k"]
theorem sc_least_at : FnScope nm_least_at ps_least_at (defScope s_least_at) := ⟨rfl, rfl, rfl, by decide +kernel, rfl, by decide +kernel, by decide +kernel⟩
theorem ok_least_at (T : Txt K mg cA) (D : DefE K mg "least_at" s_least_at ps_least_at) : CalE P w K mg base cA 2 "least_at" 2 fv_least_at :=
  D.cal (N := nm_least_at) (m := 3) (k := 1) sc_least_at rfl rfl fun f cdv A outer s H E hr => by
    exact pSs_cons (pS_set (i := 2) sc_least_at.nd rfl (by first | exact .inl rfl | exact .inr rfl) (pE_non)) (pSs_cons (pS_for (vs := [3, 4]) PassesOwn.never rfl (pI_enum (by rfl) T.b_enumerate (aG_name (pv 0) (ltb rfl) (aG_nil))) (pG_tup rfl (pGs_cons (pG_name (pg_name (i := 3) sc_least_at.nd rfl (by first | exact .inl rfl | exact .inr rfl)) (ltb rfl) (by decide)) (pGs_cons (pG_name (pg_name (i := 4) sc_least_at.nd rfl (by first | exact .inl rfl | exact .inr rfl)) (ltb rfl) (by decide)) (pGs_nil)))) (pSs_one (pS_if (PW.pt (pW_and (pT_cmp (op_neD hr.units) o_ne (pE_ixN (pv 4) (ltb rfl) (pE_var (pv 1) (ltb rfl)) (by intro _ _; rfl)) (pE_int) (nomark _)) (pW_and1 (PW.pt (pW_or (pT_cmp op_isN o_isN (pE_var (pv 2) (ltb rfl)) (pE_non) (nomark _)) (pW_or1 (pT_cmp op_lt (o_cmp (p := ltZ)) (pE_callB1 call_abs c_abs (by rfl) T.b_abs bt_abs (pB_of (pE_ixN (pv 4) (ltb rfl) (pE_var (pv 1) (ltb rfl)) (by intro _ _; rfl)))) (pE_callB1 call_abs c_abs (by rfl) T.b_abs bt_abs (pB_of (pE_ix (pE_ixN (pv 0) (ltb rfl) (pE_var (pv 2) (ltb rfl)) (by intro _ _; rfl)) (pE_var (pv 1) (ltb rfl)) (by intro _ _; rfl)))) (nomark _)))))))) (pSs_one (pS_set (i := 2) sc_least_at.nd rfl (by first | exact .inl rfl | exact .inr rfl) (pE_var (pv 3) (ltb rfl)))) (pSs_nil)))) (pSs_one (pS_ret (pE_var (pv 2) (ltb rfl)))))
abbrev s_normal_form : Stmt := top 20
abbrev nm_normal_form : List Str := ["rows", "n", "left", "found", "heads", "row", "k", "at", "head", "i", "q", "a", "b", "own", "x", "j"]
abbrev ps_normal_form : List Str := ["rows", "n"]
theorem sc_normal_form : FnScope nm_normal_form ps_normal_form (defScope s_normal_form) := ⟨rfl, rfl, rfl, by decide +kernel, rfl, by decide +kernel, by decide +kernel⟩
theorem ok_normal_form (T : Txt K mg cA) (c_least_at : CalE P w K mg base cA 2 "least_at" 2 fv_least_at) (D : DefE K mg "normal_form" s_normal_form ps_normal_form) : CalE P w K mg base cA 3 "normal_form" 2 fv_normal_form :=
  D.cal (N := nm_normal_form) (m := 14) (k := 2) sc_normal_form rfl rfl fun f cdv A outer s H E hr => by
    exact pSs_cons (pS_par3 (i := 2) (j := 3) (l := 4) rfl sc_normal_form.nd rfl rfl rfl (by decide) (by decide) (by decide) rfl rfl rfl (pP_N (pN_lc (own := [("row", 5)]) rfl sc_normal_form.nd (pJ_n (pv 0) (ltb rfl)) (blkOk_by (by kernel_rfl)) (fun _ _ _ _ _ => pG_name (pg_name (i := 5) sc_normal_form.nd rfl (by first | exact .inl rfl | exact .inr rfl)) (ltb rfl) (by decide)) (fun _ _ _ _ _ => pTs_nil) (fun _ _ _ _ _ => pE_ofN (pN_callTy1 call_list_of c_list (by rfl) T.b_list bt_list (pB_var (pv 5) (ltb rfl))) (un_lst fList_lst))) (pP_N (pN_lst (pA_nil) rfl (len_nil)) (pP_N (pN_lst (pA_nil) rfl (len_nil)) (pP_nil)))) (by rfl)) (pSs_cons (pS_for (vs := [6]) PassesOwn.never rfl ((pI_r1 (by rfl) T.b_range (pA_cons (pE_var (pv 1) (ltb rfl)) (pA_nil)))) (pG_name (pg_name (i := 6) sc_normal_form.nd rfl (by first | exact .inl rfl | exact .inr rfl)) (ltb rfl) (by decide)) (pSs_cons (pS_while PassesOwn.never (pT_cmp op_gt (o_cmp (p := gtZ)) (pE_callB1 c_len_all c_len (by rfl) T.b_len bt_len (pB_of (pE_ofN (pN_lc (own := [("row", 5)]) rfl sc_normal_form.nd (pJ_n (pv 2) (ltb rfl)) (blkOk_by (by kernel_rfl)) (fun _ _ _ _ _ => pG_name (pg_name (i := 5) sc_normal_form.nd rfl (by first | exact .inl rfl | exact .inr rfl)) (ltb rfl) (by decide)) (fun _ _ _ _ _ => pTs_one (pT_cmp (op_neD hr.units) o_ne (pE_ixN (pv 5) (ltb rfl) (pE_var (pv 6) (ltb rfl)) (by intro _ _; rfl)) (pE_int) (nomark _))) (fun _ _ _ _ _ => pE_int)) lc_lst))) (pE_int) (nomark _)) (pSs_cons (pS_set (i := 7) sc_normal_form.nd rfl (by first | exact .inl rfl | exact .inr rfl) (pE_c c_least_at hr rfl (by rfl) (aG_name (pv 2) (ltb rfl) (aG_cons (pE_var (pv 6) (ltb rfl)) (aG_nil))))) (pSs_cons (pS_set (i := 8) sc_normal_form.nd rfl (by first | exact .inl rfl | exact .inr rfl) (pE_ixN (pv 2) (ltb rfl) (pE_var (pv 7) (ltb rfl)) (by intro _ _; rfl))) (pSs_one (pS_for (vs := [9, 5]) PassesOwn.never rfl (pI_enum (by rfl) T.b_enumerate (aG_cons (pE_ofN (pN_callTy1 call_list_of c_list (by rfl) T.b_list bt_list (pB_var (pv 2) (ltb rfl))) (un_lst fList_lst)) (aG_nil))) (pG_tup rfl (pGs_cons (pG_name (pg_name (i := 9) sc_normal_form.nd rfl (by first | exact .inl rfl | exact .inr rfl)) (ltb rfl) (by decide)) (pGs_cons (pG_name (pg_name (i := 5) sc_normal_form.nd rfl (by first | exact .inl rfl | exact .inr rfl)) (ltb rfl) (by decide)) (pGs_nil)))) (pSs_one (pS_if (PW.pt (pW_and (pT_cmp (op_neD hr.units) o_ne (pE_var (pv 9) (ltb rfl)) (pE_var (pv 7) (ltb rfl)) (nomark _)) (pW_and1 (pT_cmp (op_neD hr.units) o_ne (pE_ixN (pv 5) (ltb rfl) (pE_var (pv 6) (ltb rfl)) (by intro _ _; rfl)) (pE_int) (nomark _))))) (pSs_cons (pS_set (i := 10) sc_normal_form.nd rfl (by first | exact .inl rfl | exact .inr rfl) (pE_bin op_fdivN o_div (pE_ixN (pv 5) (ltb rfl) (pE_var (pv 6) (ltb rfl)) (by intro _ _; rfl)) (pE_ixN (pv 8) (ltb rfl) (pE_var (pv 6) (ltb rfl)) (by intro _ _; rfl)))) (pSs_one (pS_setIx (pv 2) (ltb rfl) (pE_var (pv 9) (ltb rfl)) (pE_ofN (pN_lc (own := [("a", 11), ("b", 12)]) rfl sc_normal_form.nd (pJ_zip (by rfl) T.b_zip (aG_cons (pE_var (pv 5) (ltb rfl)) (aG_cons (pE_var (pv 8) (ltb rfl)) (aG_nil)))) (blkOk_by (by kernel_rfl)) (fun _ _ _ _ _ => pG_tup rfl (pGs_cons (pG_name (pg_name (i := 11) sc_normal_form.nd rfl (by first | exact .inl rfl | exact .inr rfl)) (ltb rfl) (by decide)) (pGs_cons (pG_name (pg_name (i := 12) sc_normal_form.nd rfl (by first | exact .inl rfl | exact .inr rfl)) (ltb rfl) (by decide)) (pGs_nil)))) (fun _ _ _ _ _ => pTs_nil) (fun _ _ _ _ _ => pE_bin op_sub o_sub (pE_var (pv 11) (ltb rfl)) (pE_bin opr_mul o_mul (pE_var (pv 10) (ltb rfl)) (pE_var (pv 12) (ltb rfl))))) lc_lst)))) (pSs_nil)))))))) (pSs_cons (pS_setLc (i := 13) (own := [("row", 5)]) rfl sc_normal_form.nd rfl rfl (sw_true rfl rfl rfl (by decide +kernel)) (pJ_n (pv 2) (ltb rfl)) (blkOk_by (by kernel_rfl)) (fun _ _ _ _ _ => pG_name (pg_name (i := 5) sc_normal_form.nd rfl (by first | exact .inl rfl | exact .inr rfl)) (ltb rfl) (by decide)) (fun _ _ _ _ _ => pTs_one (pT_cmp (op_neD hr.units) o_ne (pE_ixN (pv 5) (ltb rfl) (pE_var (pv 6) (ltb rfl)) (by intro _ _; rfl)) (pE_int) (nomark _))) (fun _ _ _ _ _ => pE_var (pv 5) (ltb rfl))) (pSs_one (pS_if (pT_cmp (op_eqD hr.units) o_eq (pE_callB1 c_len_all c_len (by rfl) T.b_len bt_len (pB_var (pv 13) (ltb rfl))) (pE_int) (nomark _)) (pSs_cons (pS_setLc (i := 2) (own := [("row", 5)]) rfl sc_normal_form.nd rfl rfl (sw_true rfl rfl rfl (by decide +kernel)) (pJ_n (pv 2) (ltb rfl)) (blkOk_by (by kernel_rfl)) (fun _ _ _ _ _ => pG_name (pg_name (i := 5) sc_normal_form.nd rfl (by first | exact .inl rfl | exact .inr rfl)) (ltb rfl) (by decide)) (fun _ _ _ _ _ => pTs_one (pT_cmp (op_eqD hr.units) o_eq (pE_ixN (pv 5) (ltb rfl) (pE_var (pv 6) (ltb rfl)) (by intro _ _; rfl)) (pE_int) (nomark _))) (fun _ _ _ _ _ => pE_var (pv 5) (ltb rfl))) (pSs_cons (pS_set (i := 8) sc_normal_form.nd rfl (by first | exact .inl rfl | exact .inr rfl) (pE_if (pT_cmp op_gt (o_cmp (p := gtZ)) (pE_ix (pE_ixN (pv 13) (ltb rfl) (pE_int) (by intro _ _; rfl)) (pE_var (pv 6) (ltb rfl)) (by intro _ _; rfl)) (pE_int) (nomark _)) (pE_ixN (pv 13) (ltb rfl) (pE_int) (by intro _ _; rfl)) (pE_ofN (pN_lc (own := [("x", 14)]) rfl sc_normal_form.nd (pJ_of (pI_e (pE_ixN (pv 13) (ltb rfl) (pE_int) (by intro _ _; rfl)))) (blkOk_by (by kernel_rfl)) (fun _ _ _ _ _ => pG_name (pg_name (i := 14) sc_normal_form.nd rfl (by first | exact .inl rfl | exact .inr rfl)) (ltb rfl) (by decide)) (fun _ _ _ _ _ => pTs_nil) (fun _ _ _ _ _ => pE_un un_neg o_neg (pE_var (pv 14) (ltb rfl)))) lc_lst))) (pSs_cons (pS_app (pv 3) (ltb rfl) (pE_var (pv 8) (ltb rfl))) (pSs_one (pS_app (pv 4) (ltb rfl) (pE_var (pv 6) (ltb rfl))))))) (pSs_nil)))))) (pSs_cons (pS_for (vs := [15, 6]) PassesOwn.never rfl (pI_enum (by rfl) T.b_enumerate (aG_cons (pE_var (pv 4) (ltb rfl)) (aG_nil))) (pG_tup rfl (pGs_cons (pG_name (pg_name (i := 15) sc_normal_form.nd rfl (by first | exact .inl rfl | exact .inr rfl)) (ltb rfl) (by decide)) (pGs_cons (pG_name (pg_name (i := 6) sc_normal_form.nd rfl (by first | exact .inl rfl | exact .inr rfl)) (ltb rfl) (by decide)) (pGs_nil)))) (pSs_one (pS_for (vs := [9]) PassesOwn.never rfl ((pI_r1 (by rfl) T.b_range (pA_cons (pE_var (pv 15) (ltb rfl)) (pA_nil)))) (pG_name (pg_name (i := 9) sc_normal_form.nd rfl (by first | exact .inl rfl | exact .inr rfl)) (ltb rfl) (by decide)) (pSs_cons (pS_set (i := 10) sc_normal_form.nd rfl (by first | exact .inl rfl | exact .inr rfl) (pE_bin op_fdivN o_div (pE_ix (pE_ixN (pv 3) (ltb rfl) (pE_var (pv 9) (ltb rfl)) (by intro _ _; rfl)) (pE_var (pv 6) (ltb rfl)) (by intro _ _; rfl)) (pE_ix (pE_ixN (pv 3) (ltb rfl) (pE_var (pv 15) (ltb rfl)) (by intro _ _; rfl)) (pE_var (pv 6) (ltb rfl)) (by intro _ _; rfl)))) (pSs_one (pS_setIx (pv 3) (ltb rfl) (pE_var (pv 9) (ltb rfl)) (pE_ofN (pN_lc (own := [("a", 11), ("b", 12)]) rfl sc_normal_form.nd (pJ_zip (by rfl) T.b_zip (aG_cons (pE_ixN (pv 3) (ltb rfl) (pE_var (pv 9) (ltb rfl)) (by intro _ _; rfl)) (aG_cons (pE_ixN (pv 3) (ltb rfl) (pE_var (pv 15) (ltb rfl)) (by intro _ _; rfl)) (aG_nil)))) (blkOk_by (by kernel_rfl)) (fun _ _ _ _ _ => pG_tup rfl (pGs_cons (pG_name (pg_name (i := 11) sc_normal_form.nd rfl (by first | exact .inl rfl | exact .inr rfl)) (ltb rfl) (by decide)) (pGs_cons (pG_name (pg_name (i := 12) sc_normal_form.nd rfl (by first | exact .inl rfl | exact .inr rfl)) (ltb rfl) (by decide)) (pGs_nil)))) (fun _ _ _ _ _ => pTs_nil) (fun _ _ _ _ _ => pE_bin op_sub o_sub (pE_var (pv 11) (ltb rfl)) (pE_bin opr_mul o_mul (pE_var (pv 10) (ltb rfl)) (pE_var (pv 12) (ltb rfl))))) lc_lst))))))) (pSs_one (pS_ret (pE_callTy1 call_tuple_of c_tuple (by rfl) T.b_tuple bt_tuple (pB_of (pE_ofN (pN_lc (own := [("row", 5)]) rfl sc_normal_form.nd (pJ_n (pv 3) (ltb rfl)) (blkOk_by (by kernel_rfl)) (fun _ _ _ _ _ => pG_name (pg_name (i := 5) sc_normal_form.nd rfl (by first | exact .inl rfl | exact .inr rfl)) (ltb rfl) (by decide)) (fun _ _ _ _ _ => pTs_nil) (fun _ _ _ _ _ => pE_callTy1 call_tuple_of c_tuple (by rfl) T.b_tuple bt_tuple (pB_var (pv 5) (ltb rfl)))) lc_lst)))))))
abbrev s_whole_rank : Stmt := top 21
abbrev nm_whole_rank : List Str := ["rows", "n"]
abbrev ps_whole_rank : List Str := ["rows", "n"]
theorem sc_whole_rank : FnScope nm_whole_rank ps_whole_rank (defScope s_whole_rank) := ⟨rfl, rfl, rfl, by decide +kernel, rfl, by decide +kernel, by decide +kernel⟩
theorem ok_whole_rank (T : Txt K mg cA) (c_normal_form : CalE P w K mg base cA 3 "normal_form" 2 fv_normal_form) (D : DefE K mg "whole_rank" s_whole_rank ps_whole_rank) : CalE P w K mg base cA 4 "whole_rank" 2 fv_whole_rank :=
  D.cal (N := nm_whole_rank) (m := 0) (k := 3) sc_whole_rank rfl rfl fun f cdv A outer s H E hr => by
    exact pSs_one (pS_ret (pE_callB1 c_len_all c_len (by rfl) T.b_len bt_len (pB_of (pE_c c_normal_form hr rfl (by rfl) (aG_cons (pE_var (pv 0) (ltb rfl)) (aG_cons (pE_var (pv 1) (ltb rfl)) (aG_nil)))))))
abbrev s_eliminated : Stmt := top 23
abbrev nm_eliminated : List Str := ["rows", "m", "left", "found", "row", "k", "at", "head", "i", "q", "a", "b"]
abbrev ps_eliminated : List Str := ["rows", "m"]
theorem sc_eliminated : FnScope nm_eliminated ps_eliminated (defScope s_eliminated) := ⟨rfl, rfl, rfl, by decide +kernel, rfl, by decide +kernel, by decide +kernel⟩
theorem ok_eliminated (T : Txt K mg cA) (c_least_at : CalE P w K mg base cA 2 "least_at" 2 fv_least_at) (D : DefE K mg "eliminated" s_eliminated ps_eliminated) : CalE P w K mg base cA 3 "eliminated" 2 fv_eliminated :=
  D.cal (N := nm_eliminated) (m := 10) (k := 2) sc_eliminated rfl rfl fun f cdv A outer s H E hr => by
    exact pSs_cons (pS_par (i := 2) (j := 3) rfl sc_eliminated.nd rfl rfl (by decide) rfl rfl (pP_N (pN_lc (own := [("row", 4)]) rfl sc_eliminated.nd (pJ_n (pv 0) (ltb rfl)) (blkOk_by (by kernel_rfl)) (fun _ _ _ _ _ => pG_name (pg_name (i := 4) sc_eliminated.nd rfl (by first | exact .inl rfl | exact .inr rfl)) (ltb rfl) (by decide)) (fun _ _ _ _ _ => pTs_nil) (fun _ _ _ _ _ => pE_ofN (pN_callTy1 call_list_of c_list (by rfl) T.b_list bt_list (pB_var (pv 4) (ltb rfl))) (un_lst fList_lst))) (pP_N (pN_lst (pA_nil) rfl (len_nil)) (pP_nil))) (by rfl)) (pSs_cons (pS_for (vs := [5]) PassesOwn.never rfl ((pI_r1 (by rfl) T.b_range (pA_cons (pE_var (pv 1) (ltb rfl)) (pA_nil)))) (pG_name (pg_name (i := 5) sc_eliminated.nd rfl (by first | exact .inl rfl | exact .inr rfl)) (ltb rfl) (by decide)) (pSs_cons (pS_while PassesOwn.never (pT_cmp op_gt (o_cmp (p := gtZ)) (pE_callB1 c_len_all c_len (by rfl) T.b_len bt_len (pB_of (pE_ofN (pN_lc (own := [("row", 4)]) rfl sc_eliminated.nd (pJ_n (pv 2) (ltb rfl)) (blkOk_by (by kernel_rfl)) (fun _ _ _ _ _ => pG_name (pg_name (i := 4) sc_eliminated.nd rfl (by first | exact .inl rfl | exact .inr rfl)) (ltb rfl) (by decide)) (fun _ _ _ _ _ => pTs_one (pT_cmp (op_neD hr.units) o_ne (pE_ixN (pv 4) (ltb rfl) (pE_var (pv 5) (ltb rfl)) (by intro _ _; rfl)) (pE_int) (nomark _))) (fun _ _ _ _ _ => pE_int)) lc_lst))) (pE_int) (nomark _)) (pSs_cons (pS_set (i := 6) sc_eliminated.nd rfl (by first | exact .inl rfl | exact .inr rfl) (pE_c c_least_at hr rfl (by rfl) (aG_name (pv 2) (ltb rfl) (aG_cons (pE_var (pv 5) (ltb rfl)) (aG_nil))))) (pSs_cons (pS_set (i := 7) sc_eliminated.nd rfl (by first | exact .inl rfl | exact .inr rfl) (pE_ixN (pv 2) (ltb rfl) (pE_var (pv 6) (ltb rfl)) (by intro _ _; rfl))) (pSs_one (pS_for (vs := [8, 4]) PassesOwn.never rfl (pI_enum (by rfl) T.b_enumerate (aG_cons (pE_ofN (pN_callTy1 call_list_of c_list (by rfl) T.b_list bt_list (pB_var (pv 2) (ltb rfl))) (un_lst fList_lst)) (aG_nil))) (pG_tup rfl (pGs_cons (pG_name (pg_name (i := 8) sc_eliminated.nd rfl (by first | exact .inl rfl | exact .inr rfl)) (ltb rfl) (by decide)) (pGs_cons (pG_name (pg_name (i := 4) sc_eliminated.nd rfl (by first | exact .inl rfl | exact .inr rfl)) (ltb rfl) (by decide)) (pGs_nil)))) (pSs_one (pS_if (PW.pt (pW_and (pT_cmp (op_neD hr.units) o_ne (pE_var (pv 8) (ltb rfl)) (pE_var (pv 6) (ltb rfl)) (nomark _)) (pW_and1 (pT_cmp (op_neD hr.units) o_ne (pE_ixN (pv 4) (ltb rfl) (pE_var (pv 5) (ltb rfl)) (by intro _ _; rfl)) (pE_int) (nomark _))))) (pSs_cons (pS_set (i := 9) sc_eliminated.nd rfl (by first | exact .inl rfl | exact .inr rfl) (pE_bin op_fdivN o_div (pE_ixN (pv 4) (ltb rfl) (pE_var (pv 5) (ltb rfl)) (by intro _ _; rfl)) (pE_ixN (pv 7) (ltb rfl) (pE_var (pv 5) (ltb rfl)) (by intro _ _; rfl)))) (pSs_one (pS_setIx (pv 2) (ltb rfl) (pE_var (pv 8) (ltb rfl)) (pE_ofN (pN_lc (own := [("a", 10), ("b", 11)]) rfl sc_eliminated.nd (pJ_zip (by rfl) T.b_zip (aG_cons (pE_var (pv 4) (ltb rfl)) (aG_cons (pE_var (pv 7) (ltb rfl)) (aG_nil)))) (blkOk_by (by kernel_rfl)) (fun _ _ _ _ _ => pG_tup rfl (pGs_cons (pG_name (pg_name (i := 10) sc_eliminated.nd rfl (by first | exact .inl rfl | exact .inr rfl)) (ltb rfl) (by decide)) (pGs_cons (pG_name (pg_name (i := 11) sc_eliminated.nd rfl (by first | exact .inl rfl | exact .inr rfl)) (ltb rfl) (by decide)) (pGs_nil)))) (fun _ _ _ _ _ => pTs_nil) (fun _ _ _ _ _ => pE_bin op_sub o_sub (pE_var (pv 10) (ltb rfl)) (pE_bin opr_mul o_mul (pE_var (pv 9) (ltb rfl)) (pE_var (pv 11) (ltb rfl))))) lc_lst)))) (pSs_nil)))))))) (pSs_cons (pS_ext (pv 3) (ltb rfl) (pE_ofN (pN_lc (own := [("row", 4)]) rfl sc_eliminated.nd (pJ_n (pv 2) (ltb rfl)) (blkOk_by (by kernel_rfl)) (fun _ _ _ _ _ => pG_name (pg_name (i := 4) sc_eliminated.nd rfl (by first | exact .inl rfl | exact .inr rfl)) (ltb rfl) (by decide)) (fun _ _ _ _ _ => pTs_one (pT_cmp (op_neD hr.units) o_ne (pE_ixN (pv 4) (ltb rfl) (pE_var (pv 5) (ltb rfl)) (by intro _ _; rfl)) (pE_int) (nomark _))) (fun _ _ _ _ _ => pE_var (pv 4) (ltb rfl))) lc_lst)) (pSs_one (pS_setLc (i := 2) (own := [("row", 4)]) rfl sc_eliminated.nd rfl rfl (sw_true rfl rfl rfl (by decide +kernel)) (pJ_n (pv 2) (ltb rfl)) (blkOk_by (by kernel_rfl)) (fun _ _ _ _ _ => pG_name (pg_name (i := 4) sc_eliminated.nd rfl (by first | exact .inl rfl | exact .inr rfl)) (ltb rfl) (by decide)) (fun _ _ _ _ _ => pTs_one (pT_cmp (op_eqD hr.units) o_eq (pE_ixN (pv 4) (ltb rfl) (pE_var (pv 5) (ltb rfl)) (by intro _ _; rfl)) (pE_int) (nomark _))) (fun _ _ _ _ _ => pE_var (pv 4) (ltb rfl))))))) (pSs_one (pS_ret (pE_bin opr_add o_add (pE_var (pv 3) (ltb rfl)) (pE_var (pv 2) (ltb rfl))))))
abbrev s_null_rows : Stmt := top 22
abbrev nm_null_rows : List Str := ["rows", "n", "lots", "row", "j", "k", "m", "wide", "left", "right", "done", "x"]
abbrev ps_null_rows : List Str := ["rows", "n"]
theorem sc_null_rows : FnScope nm_null_rows ps_null_rows (defScope s_null_rows) := ⟨rfl, rfl, rfl, by decide +kernel, rfl, by decide +kernel, by decide +kernel⟩
theorem ok_null_rows (T : Txt K mg cA) (c_eliminated : CalE P w K mg base cA 3 "eliminated" 2 fv_eliminated) (c_normal_form : CalE P w K mg base cA 3 "normal_form" 2 fv_normal_form) (D : DefE K mg "null_rows" s_null_rows ps_null_rows) : CalE P w K mg base cA 4 "null_rows" 2 fv_null_rows :=
  D.cal (N := nm_null_rows) (m := 10) (k := 3) sc_null_rows rfl rfl fun f cdv A outer s H E hr => by
    exact pSs_cons (pS_setLc (i := 2) (own := [("k", 5)]) rfl sc_null_rows.nd rfl rfl (sw_true rfl rfl rfl (by decide +kernel)) (pJ_of (pI_r1 (by rfl) T.b_range (pA_cons (pE_var (pv 1) (ltb rfl)) (pA_nil)))) (blkOk_by (by kernel_rfl)) (fun _ _ _ _ _ => pG_name (pg_name (i := 5) sc_null_rows.nd rfl (by first | exact .inl rfl | exact .inr rfl)) (ltb rfl) (by decide)) (fun _ _ _ _ _ => pTs_nil) (fun _ _ _ _ _ => pE_tup (pA_cons (pE_ofN (pN_lc (own := [("row", 3)]) rfl sc_null_rows.nd (pJ_n (pv 0) (ltb rfl)) (blkOk_by (by kernel_rfl)) (fun _ _ _ _ _ => pG_name (pg_name (i := 3) sc_null_rows.nd rfl (by first | exact .inl rfl | exact .inr rfl)) (ltb rfl) (by decide)) (fun _ _ _ _ _ => pTs_nil) (fun _ _ _ _ _ => pE_ixN (pv 3) (ltb rfl) (pE_var (pv 5) (ltb rfl)) (by intro _ _; rfl))) lc_lst) (pA_cons (pE_ofN (pN_lc (own := [("j", 4)]) rfl sc_null_rows.nd (pJ_of (pI_r1 (by rfl) T.b_range (pA_cons (pE_var (pv 1) (ltb rfl)) (pA_nil)))) (blkOk_by (by kernel_rfl)) (fun _ _ _ _ _ => pG_name (pg_name (i := 4) sc_null_rows.nd rfl (by first | exact .inl rfl | exact .inr rfl)) (ltb rfl) (by decide)) (fun _ _ _ _ _ => pTs_nil) (fun _ _ _ _ _ => pE_callTy1 call_int1 c_int (by rfl) T.b_int bt_int (pB_of (pE_cmp (op_eqD hr.units) o_eq (pE_var (pv 4) (ltb rfl)) (pE_var (pv 5) (ltb rfl)) (nomark _))))) lc_lst) (pA_nil))) rfl (len_cons (len_cons (len_nil))))) (pSs_cons (pS_set (i := 6) sc_null_rows.nd rfl (by first | exact .inl rfl | exact .inr rfl) (pE_callB1 c_len_all c_len (by rfl) T.b_len bt_len (pB_var (pv 0) (ltb rfl)))) (pSs_cons (pS_setN (i := 7) sc_null_rows.nd rfl (by first | exact .inl rfl | exact .inr rfl) (pN_lst (pA_nil) rfl (len_nil))) (pSs_cons (pS_for (vs := [8, 9]) PassesOwn.never rfl ((pI_e (pE_var (pv 2) (ltb rfl)))) (pG_tup rfl (pGs_cons (pG_name (pg_name (i := 8) sc_null_rows.nd rfl (by first | exact .inl rfl | exact .inr rfl)) (ltb rfl) (by decide)) (pGs_cons (pG_name (pg_name (i := 9) sc_null_rows.nd rfl (by first | exact .inl rfl | exact .inr rfl)) (ltb rfl) (by decide)) (pGs_nil)))) (pSs_one (pS_app (pv 7) (ltb rfl) (pE_bin opr_add o_add (pE_var (pv 8) (ltb rfl)) (pE_var (pv 9) (ltb rfl)))))) (pSs_cons (pS_set (i := 10) sc_null_rows.nd rfl (by first | exact .inl rfl | exact .inr rfl) (pE_c c_eliminated hr rfl (by rfl) (aG_name (pv 7) (ltb rfl) (aG_cons (pE_var (pv 6) (ltb rfl)) (aG_nil))))) (pSs_one (pS_ret (pE_c c_normal_form hr rfl (by rfl) (aG_cons (pE_ofN (pN_lc (own := [("row", 3)]) rfl sc_null_rows.nd (pJ_n (pv 10) (ltb rfl)) (blkOk_by (by kernel_rfl)) (fun _ _ _ _ _ => pG_name (pg_name (i := 3) sc_null_rows.nd rfl (by first | exact .inl rfl | exact .inr rfl)) (ltb rfl) (by decide)) (fun _ _ _ _ _ => pTs_one (pT_val (pE_callB1 (cr_all rfl) c_all (by rfl) T.b_all bt_all (pB_of (pE_ofN (pN_lc (own := [("x", 11)]) rfl sc_null_rows.nd (pJ_of (pI_e (pE_sl (pE_var (pv 3) (ltb rfl)) (pO_none) (pO_some (pE_var (pv 6) (ltb rfl)))))) (blkOk_by (by kernel_rfl)) (fun _ _ _ _ _ => pG_name (pg_name (i := 11) sc_null_rows.nd rfl (by first | exact .inl rfl | exact .inr rfl)) (ltb rfl) (by decide)) (fun _ _ _ _ _ => pTs_nil) (fun _ _ _ _ _ => pE_cmp (op_eqD hr.units) o_eq (pE_var (pv 11) (ltb rfl)) (pE_int) (nomark _))) lc_lst))))) (fun _ _ _ _ _ => pE_callTy1 call_tuple_of c_tuple (by rfl) T.b_tuple bt_tuple (pB_of (pE_sl (pE_var (pv 3) (ltb rfl)) (pO_some (pE_var (pv 6) (ltb rfl))) (pO_none))))) lc_lst) (aG_cons (pE_var (pv 1) (ltb rfl)) (aG_nil))))))))))
abbrev s_across : Stmt := top 25
abbrev nm_across : List Str := ["rows", "n", "own"]
abbrev ps_across : List Str := ["rows", "n"]
theorem sc_across : FnScope nm_across ps_across (defScope s_across) := ⟨rfl, rfl, rfl, by decide +kernel, rfl, by decide +kernel, by decide +kernel⟩
theorem ok_across (T : Txt K mg cA) (c_null_rows : CalE P w K mg base cA 4 "null_rows" 2 fv_null_rows) (c_primitive : CalE P w K mg base cA 4 "primitive" 1 fv_primitive) (D : DefE K mg "across" s_across ps_across) : CalE P w K mg base cA 5 "across" 2 fv_across :=
  D.cal (N := nm_across) (m := 1) (k := 4) sc_across rfl rfl fun f cdv A outer s H E hr => by
    exact pSs_cons (pS_set (i := 2) sc_across.nd rfl (by first | exact .inl rfl | exact .inr rfl) (pE_c c_null_rows hr rfl (by rfl) (aG_cons (pE_var (pv 0) (ltb rfl)) (aG_cons (pE_var (pv 1) (ltb rfl)) (aG_nil))))) (pSs_one (pS_ret (pE_if (pT_cmp (op_eqD hr.units) o_eq (pE_callB1 c_len_all c_len (by rfl) T.b_len bt_len (pB_var (pv 2) (ltb rfl))) (pE_int) (nomark _)) (pE_c c_primitive hr rfl (by rfl) (aG_cons (pE_ixN (pv 2) (ltb rfl) (pE_int) (by intro _ _; rfl)) (aG_nil))) (pE_non))))
abbrev s_side_rows : Stmt := top 30
abbrev nm_side_rows : List Str := ["makers", "zeros", "n", "d", "found", "lot", "u", "own", "v"]
abbrev ps_side_rows : List Str := ["makers", "zeros", "n"]
theorem sc_side_rows : FnScope nm_side_rows ps_side_rows (defScope s_side_rows) := ⟨rfl, rfl, rfl, by decide +kernel, rfl, by decide +kernel, by decide +kernel⟩
theorem ok_side_rows (T : Txt K mg cA) (c_picks : CalE P w K mg base cA 2 "picks" 2 fv_picks) (c_across : CalE P w K mg base cA 5 "across" 2 fv_across) (c_scaled : CalE P w K mg base cA 2 "scaled" 2 fv_scaled) (c_dot : CalE P w K mg base cA 2 "dot" 2 fv_dot) (D : DefE K mg "side_rows" s_side_rows ps_side_rows) : CalE P w K mg base cA 6 "side_rows" 3 fv_side_rows :=
  D.cal (N := nm_side_rows) (m := 6) (k := 5) sc_side_rows rfl rfl fun f cdv A outer s H E hr => by
    exact pSs_cons (pS_set (i := 3) sc_side_rows.nd rfl (by first | exact .inl rfl | exact .inr rfl) (pE_bin op_sub o_sub (pE_var (pv 2) (ltb rfl)) (pE_callB1 c_len_all c_len (by rfl) T.b_len bt_len (pB_var (pv 1) (ltb rfl))))) (pSs_cons (pS_if (pT_cmp (op_eqD hr.units) o_eq (pE_var (pv 3) (ltb rfl)) (pE_int) (nomark _)) (pSs_one (pS_ret (pE_tup (pA_nil) rfl (len_nil)))) (pSs_nil)) (pSs_cons (pS_setN (i := 4) sc_side_rows.nd rfl (by first | exact .inl rfl | exact .inr rfl) pN_dicT) (pSs_cons (pS_for (vs := [5]) PassesOwn.never rfl ((pI_e (pE_c c_picks hr rfl (by rfl) (aG_cons (pE_var (pv 0) (ltb rfl)) (aG_cons (pE_bin op_sub o_sub (pE_var (pv 3) (ltb rfl)) (pE_int)) (aG_nil)))))) (pG_name (pg_name (i := 5) sc_side_rows.nd rfl (by first | exact .inl rfl | exact .inr rfl)) (ltb rfl) (by decide)) (pSs_cons (pS_set (i := 6) sc_side_rows.nd rfl (by first | exact .inl rfl | exact .inr rfl) (pE_c c_across hr rfl (by rfl) (aG_cons (pE_bin opr_add o_add (pE_ofN (pN_callTy1 call_list_of c_list (by rfl) T.b_list bt_list (pB_var (pv 5) (ltb rfl))) (un_lst fList_lst)) (pE_ofN (pN_callTy1 call_list_of c_list (by rfl) T.b_list bt_list (pB_var (pv 1) (ltb rfl))) (un_lst fList_lst))) (aG_cons (pE_var (pv 2) (ltb rfl)) (aG_nil))))) (pSs_one (pS_if (pT_cmp op_notN o_notN (pE_var (pv 6) (ltb rfl)) (pE_non) (nomark _)) (pSs_one (pS_for (vs := [7]) PassesOwn.never rfl ((pI_e (pE_tup (pA_cons (pE_var (pv 6) (ltb rfl)) (pA_cons (pE_c c_scaled hr rfl (by rfl) (aG_cons (pE_var (pv 6) (ltb rfl)) (aG_cons (pE_un un_neg o_neg (pE_int)) (aG_nil)))) (pA_nil))) rfl (len_cons (len_cons (len_nil)))))) (pG_name (pg_name (i := 7) sc_side_rows.nd rfl (by first | exact .inl rfl | exact .inr rfl)) (ltb rfl) (by decide)) (pSs_one (pS_if (pT_val (pE_callB1 (cr_all rfl) c_all (by rfl) T.b_all bt_all (pB_of (pE_ofN (pN_lc (own := [("v", 8)]) rfl sc_side_rows.nd (pJ_n (pv 0) (ltb rfl)) (blkOk_by (by kernel_rfl)) (fun _ _ _ _ _ => pG_name (pg_name (i := 8) sc_side_rows.nd rfl (by first | exact .inl rfl | exact .inr rfl)) (ltb rfl) (by decide)) (fun _ _ _ _ _ => pTs_nil) (fun _ _ _ _ _ => pE_cmp op_ge (o_cmp (p := geZ)) (pE_c c_dot hr rfl (by rfl) (aG_cons (pE_var (pv 7) (ltb rfl)) (aG_cons (pE_var (pv 8) (ltb rfl)) (aG_nil)))) (pE_int) (nomark _))) lc_lst)))) (pSs_one (pS_dput (hu1 hr) (pv 4) (ltb rfl) (pE_var (pv 7) (ltb rfl)) (pE_bl))) (pSs_nil))))) (pSs_nil))))) (pSs_one (pS_ret (pE_callTy1 call_tuple_of c_tuple (by rfl) T.b_tuple bt_tuple (pB_of (pE_callB1 (cr_srt rfl) c_sorted (by rfl) T.b_sorted bt_sorted (pB_var (pv 4) (ltb rfl))))))))))
abbrev s_is_edge : Stmt := top 31
abbrev nm_is_edge : List Str := ["v", "sides", "zeros", "n", "u"]
abbrev ps_is_edge : List Str := ["v", "sides", "zeros", "n"]
theorem sc_is_edge : FnScope nm_is_edge ps_is_edge (defScope s_is_edge) := ⟨rfl, rfl, rfl, by decide +kernel, rfl, by decide +kernel, by decide +kernel⟩
theorem ok_is_edge (T : Txt K mg cA) (c_dot : CalE P w K mg base cA 2 "dot" 2 fv_dot) (c_whole_rank : CalE P w K mg base cA 4 "whole_rank" 2 fv_whole_rank) (D : DefE K mg "is_edge" s_is_edge ps_is_edge) : CalE P w K mg base cA 5 "is_edge" 4 fv_is_edge :=
  D.cal (N := nm_is_edge) (m := 1) (k := 4) sc_is_edge rfl rfl fun f cdv A outer s H E hr => by
    exact pSs_one (pS_ret (pE_cmp (op_eqD hr.units) o_eq (pE_c c_whole_rank hr rfl (by rfl) (aG_cons (pE_bin opr_add o_add (pE_ofN (pN_lc (own := [("u", 4)]) rfl sc_is_edge.nd (pJ_n (pv 1) (ltb rfl)) (blkOk_by (by kernel_rfl)) (fun _ _ _ _ _ => pG_name (pg_name (i := 4) sc_is_edge.nd rfl (by first | exact .inl rfl | exact .inr rfl)) (ltb rfl) (by decide)) (fun _ _ _ _ _ => pTs_one (pT_cmp (op_eqD hr.units) o_eq (pE_c c_dot hr rfl (by rfl) (aG_cons (pE_var (pv 4) (ltb rfl)) (aG_cons (pE_var (pv 0) (ltb rfl)) (aG_nil)))) (pE_int) (nomark _))) (fun _ _ _ _ _ => pE_var (pv 4) (ltb rfl))) lc_lst) (pE_ofN (pN_callTy1 call_list_of c_list (by rfl) T.b_list bt_list (pB_var (pv 2) (ltb rfl))) (un_lst fList_lst))) (aG_cons (pE_var (pv 3) (ltb rfl)) (aG_nil)))) (pE_bin op_sub o_sub (pE_var (pv 3) (ltb rfl)) (pE_int)) (nomark _)))
abbrev s_Cone___init__ : Stmt := inClass (top 28) 0
abbrev nm_Cone___init__ : List Str := ["self", "n", "makers", "v", "own"]
abbrev ps_Cone___init__ : List Str := ["self", "n", "makers"]
theorem sc_Cone___init__ : FnScope nm_Cone___init__ ps_Cone___init__ (defScope s_Cone___init__) := ⟨rfl, rfl, rfl, by decide +kernel, rfl, by decide +kernel, by decide +kernel⟩
theorem ok_Cone___init__ (T : Txt K mg cA) (c_check_from : CalE P w K mg base cA 3 "check_from" 3 fv_check_from) (c_check_vector : CalE P w K mg base cA 4 "check_vector" 2 fv_check_vector) (c_is_null : CalE P w K mg base cA 2 "is_null" 1 fv_is_null) (c_primitive : CalE P w K mg base cA 4 "primitive" 1 fv_primitive) (c_null_rows : CalE P w K mg base cA 4 "null_rows" 2 fv_null_rows) (c_side_rows : CalE P w K mg base cA 6 "side_rows" 3 fv_side_rows) (c_whole_rank : CalE P w K mg base cA 4 "whole_rank" 2 fv_whole_rank) (c_is_edge : CalE P w K mg base cA 5 "is_edge" 4 fv_is_edge) (D : IniE K mg "Cone" "Cone.__init__" (cA 1) s_Cone___init__ ps_Cone___init__) : MakE P w K mg base cA 7 "Cone" 1 2 iv_Cone___init__ :=
  D.mak (N := nm_Cone___init__) (m := 2) (k := 6) sc_Cone___init__ rfl rfl fun f cdv A outer s H E hr => by
    exact pSs_cons (pS_expr (pE_c c_check_from hr rfl (by rfl) (aG_cons (pE_var (pv 1) (ltb rfl)) (aG_cons (pE_int) (aG_cons (pE_int) (aG_nil)))))) (pSs_cons (pS_if (PW.pt (pW_or (pT_not (pT_val (pE_isiLT T.tys (by rfl) T.b_isinstance (pe_bltn (by rfl) T.b_list bt_list (v := .ty "list") rfl) (pe_bltn (by rfl) T.b_tuple bt_tuple (v := .ty "tuple") rfl) (pB_var (pv 2) (ltb rfl))))) (pW_or1 (pT_cmp op_gt (o_cmp (p := gtZ)) (pE_callB1 c_len_all c_len (by rfl) T.b_len bt_len (pB_var (pv 2) (ltb rfl))) (pE_gc (by rfl) T.k_MOST_MAKERS) (nomark _))))) (pSs_no) (pSs_nil)) (pSs_cons (pS_for (vs := [3]) PassesOwn.never rfl ((pI_e (pE_var (pv 2) (ltb rfl)))) (pG_name (pg_name (i := 3) sc_Cone___init__.nd rfl (by first | exact .inl rfl | exact .inr rfl)) (ltb rfl) (by decide)) (pSs_one (pS_expr (pE_c c_check_vector hr rfl (by rfl) (aG_cons (pE_var (pv 3) (ltb rfl)) (aG_cons (pE_var (pv 1) (ltb rfl)) (aG_nil))))))) (pSs_cons (pS_set (i := 4) sc_Cone___init__.nd rfl (by first | exact .inl rfl | exact .inr rfl) (pE_sortSet rfl hr.units (by rfl) T.b_sorted (by rfl) T.b_set (pB_of (pE_ofN (pN_lc (own := [("v", 3)]) rfl sc_Cone___init__.nd (pJ_n (pv 2) (ltb rfl)) (blkOk_by (by kernel_rfl)) (fun _ _ _ _ _ => pG_name (pg_name (i := 3) sc_Cone___init__.nd rfl (by first | exact .inl rfl | exact .inr rfl)) (ltb rfl) (by decide)) (fun _ _ _ _ _ => pTs_one (pT_not (pT_val (pE_c c_is_null hr rfl (by rfl) (aG_cons (pE_var (pv 3) (ltb rfl)) (aG_nil)))))) (fun _ _ _ _ _ => pE_c c_primitive hr rfl (by rfl) (aG_cons (pE_var (pv 3) (ltb rfl)) (aG_nil)))) lc_lst)))) (pSs_cons (pS_fld T.f_1_0 (pv 0) (pE_var (pv 1) (ltb rfl))) (pSs_cons (pS_fld T.f_1_1 (pv 0) (pE_c c_null_rows hr rfl (by rfl) (aG_cons (pE_var (pv 4) (ltb rfl)) (aG_cons (pE_var (pv 1) (ltb rfl)) (aG_nil))))) (pSs_cons (pS_fld T.f_1_2 (pv 0) (pE_bin op_sub o_sub (pE_var (pv 1) (ltb rfl)) (pE_callB1 c_len_all c_len (by rfl) T.b_len bt_len (pB_of (pE_fld (one_cls T.f_1_1) (pB_var (pv 0) (ltb rfl)) (by rfl)))))) (pSs_cons (pS_fld T.f_1_3 (pv 0) (pE_c c_side_rows hr rfl (by rfl) (aG_cons (pE_var (pv 4) (ltb rfl)) (aG_cons (pE_fld (one_cls T.f_1_1) (pB_var (pv 0) (ltb rfl)) (by rfl)) (aG_cons (pE_var (pv 1) (ltb rfl)) (aG_nil)))))) (pSs_cons (pS_if (PW.pt (pW_and (pT_cmp op_gt (o_cmp (p := gtZ)) (pE_fld (one_cls T.f_1_2) (pB_var (pv 0) (ltb rfl)) (by rfl)) (pE_int) (nomark _)) (pW_and1 (pT_cmp (op_neD hr.units) o_ne (pE_c c_whole_rank hr rfl (by rfl) (aG_cons (pE_fld (one_cls T.f_1_3) (pB_var (pv 0) (ltb rfl)) (by rfl)) (aG_cons (pE_var (pv 1) (ltb rfl)) (aG_nil)))) (pE_fld (one_cls T.f_1_2) (pB_var (pv 0) (ltb rfl)) (by rfl)) (nomark _))))) (pSs_no) (pSs_nil)) (pSs_one (pS_fld T.f_1_4 (pv 0) (pE_callTy1 call_tuple_of c_tuple (by rfl) T.b_tuple bt_tuple (pB_of (pE_ofN (pN_lc (own := [("v", 3)]) rfl sc_Cone___init__.nd (pJ_n (pv 4) (ltb rfl)) (blkOk_by (by kernel_rfl)) (fun _ _ _ _ _ => pG_name (pg_name (i := 3) sc_Cone___init__.nd rfl (by first | exact .inl rfl | exact .inr rfl)) (ltb rfl) (by decide)) (fun _ _ _ _ _ => pTs_one (pT_val (pE_c c_is_edge hr rfl (by rfl) (aG_cons (pE_var (pv 3) (ltb rfl)) (aG_cons (pE_fld (one_cls T.f_1_3) (pB_var (pv 0) (ltb rfl)) (by rfl)) (aG_cons (pE_fld (one_cls T.f_1_1) (pB_var (pv 0) (ltb rfl)) (by rfl)) (aG_cons (pE_var (pv 1) (ltb rfl)) (aG_nil)))))))) (fun _ _ _ _ _ => pE_var (pv 3) (ltb rfl))) lc_lst)))))))))))))
abbrev s_edges_of : Stmt := top 32
abbrev nm_edges_of : List Str := ["sides", "zeros", "n", "found", "r", "lot", "v", "own", "u"]
abbrev ps_edges_of : List Str := ["sides", "zeros", "n"]
theorem sc_edges_of : FnScope nm_edges_of ps_edges_of (defScope s_edges_of) := ⟨rfl, rfl, rfl, by decide +kernel, rfl, by decide +kernel, by decide +kernel⟩
theorem ok_edges_of (T : Txt K mg cA) (c_whole_rank : CalE P w K mg base cA 4 "whole_rank" 2 fv_whole_rank) (c_picks : CalE P w K mg base cA 2 "picks" 2 fv_picks) (c_across : CalE P w K mg base cA 5 "across" 2 fv_across) (c_scaled : CalE P w K mg base cA 2 "scaled" 2 fv_scaled) (c_dot : CalE P w K mg base cA 2 "dot" 2 fv_dot) (D : DefE K mg "edges_of" s_edges_of ps_edges_of) : CalE P w K mg base cA 6 "edges_of" 3 fv_edges_of :=
  D.cal (N := nm_edges_of) (m := 6) (k := 5) sc_edges_of rfl rfl fun f cdv A outer s H E hr => by
    exact pSs_cons (pS_if (pT_cmp op_lt (o_cmp (p := ltZ)) (pE_c c_whole_rank hr rfl (by rfl) (aG_cons (pE_bin opr_add o_add (pE_ofN (pN_callTy1 call_list_of c_list (by rfl) T.b_list bt_list (pB_var (pv 0) (ltb rfl))) (un_lst fList_lst)) (pE_ofN (pN_callTy1 call_list_of c_list (by rfl) T.b_list bt_list (pB_var (pv 1) (ltb rfl))) (un_lst fList_lst))) (aG_cons (pE_var (pv 2) (ltb rfl)) (aG_nil)))) (pE_var (pv 2) (ltb rfl)) (nomark _)) (pSs_no) (pSs_nil)) (pSs_cons (pS_par (i := 3) (j := 4) rfl sc_edges_of.nd rfl rfl (by decide) rfl rfl (pP_N pN_dicT (pP_E (pE_c c_whole_rank hr rfl (by rfl) (aG_cons (pE_var (pv 1) (ltb rfl)) (aG_cons (pE_var (pv 2) (ltb rfl)) (aG_nil)))) (pP_nil))) (by rfl)) (pSs_cons (pS_for (vs := [5]) PassesOwn.never rfl ((pI_e (pE_if (pT_cmp op_lt (o_cmp (p := ltZ)) (pE_var (pv 4) (ltb rfl)) (pE_var (pv 2) (ltb rfl)) (nomark _)) (pE_c c_picks hr rfl (by rfl) (aG_cons (pE_ofN (pN_callTy1 call_list_of c_list (by rfl) T.b_list bt_list (pB_var (pv 0) (ltb rfl))) (un_lst fList_lst)) (aG_cons (pE_bin op_sub o_sub (pE_bin op_sub o_sub (pE_var (pv 2) (ltb rfl)) (pE_var (pv 4) (ltb rfl))) (pE_int)) (aG_nil)))) (pE_lst (pA_nil) rfl (len_nil))))) (pG_name (pg_name (i := 5) sc_edges_of.nd rfl (by first | exact .inl rfl | exact .inr rfl)) (ltb rfl) (by decide)) (pSs_cons (pS_set (i := 6) sc_edges_of.nd rfl (by first | exact .inl rfl | exact .inr rfl) (pE_c c_across hr rfl (by rfl) (aG_cons (pE_bin opr_add o_add (pE_ofN (pN_callTy1 call_list_of c_list (by rfl) T.b_list bt_list (pB_var (pv 5) (ltb rfl))) (un_lst fList_lst)) (pE_ofN (pN_callTy1 call_list_of c_list (by rfl) T.b_list bt_list (pB_var (pv 1) (ltb rfl))) (un_lst fList_lst))) (aG_cons (pE_var (pv 2) (ltb rfl)) (aG_nil))))) (pSs_one (pS_if (pT_cmp op_notN o_notN (pE_var (pv 6) (ltb rfl)) (pE_non) (nomark _)) (pSs_one (pS_for (vs := [7]) PassesOwn.never rfl ((pI_e (pE_tup (pA_cons (pE_var (pv 6) (ltb rfl)) (pA_cons (pE_c c_scaled hr rfl (by rfl) (aG_cons (pE_var (pv 6) (ltb rfl)) (aG_cons (pE_un un_neg o_neg (pE_int)) (aG_nil)))) (pA_nil))) rfl (len_cons (len_cons (len_nil)))))) (pG_name (pg_name (i := 7) sc_edges_of.nd rfl (by first | exact .inl rfl | exact .inr rfl)) (ltb rfl) (by decide)) (pSs_one (pS_if (pT_val (pE_callB1 (cr_all rfl) c_all (by rfl) T.b_all bt_all (pB_of (pE_ofN (pN_lc (own := [("u", 8)]) rfl sc_edges_of.nd (pJ_n (pv 0) (ltb rfl)) (blkOk_by (by kernel_rfl)) (fun _ _ _ _ _ => pG_name (pg_name (i := 8) sc_edges_of.nd rfl (by first | exact .inl rfl | exact .inr rfl)) (ltb rfl) (by decide)) (fun _ _ _ _ _ => pTs_nil) (fun _ _ _ _ _ => pE_cmp op_ge (o_cmp (p := geZ)) (pE_c c_dot hr rfl (by rfl) (aG_cons (pE_var (pv 8) (ltb rfl)) (aG_cons (pE_var (pv 7) (ltb rfl)) (aG_nil)))) (pE_int) (nomark _))) lc_lst)))) (pSs_one (pS_dput (hu1 hr) (pv 3) (ltb rfl) (pE_var (pv 7) (ltb rfl)) (pE_bl))) (pSs_nil))))) (pSs_nil))))) (pSs_one (pS_ret (pE_callB1 (cr_srt rfl) c_sorted (by rfl) T.b_sorted bt_sorted (pB_var (pv 3) (ltb rfl)))))))
abbrev s_crossing_rays : Stmt := top 33
abbrev nm_crossing_rays : List Str := ["one", "two", "zeros"]
abbrev ps_crossing_rays : List Str := ["one", "two"]
theorem sc_crossing_rays : FnScope nm_crossing_rays ps_crossing_rays (defScope s_crossing_rays) := ⟨rfl, rfl, rfl, by decide +kernel, rfl, by decide +kernel, by decide +kernel⟩
theorem ok_crossing_rays (T : Txt K mg cA) (c_normal_form : CalE P w K mg base cA 3 "normal_form" 2 fv_normal_form) (c_edges_of : CalE P w K mg base cA 6 "edges_of" 3 fv_edges_of) (D : DefE K mg "crossing_rays" s_crossing_rays ps_crossing_rays) : CalE P w K mg base cA 7 "crossing_rays" 2 fv_crossing_rays :=
  D.cal (N := nm_crossing_rays) (m := 1) (k := 6) sc_crossing_rays rfl rfl fun f cdv A outer s H E hr => by
    exact pSs_cons (pS_set (i := 2) sc_crossing_rays.nd rfl (by first | exact .inl rfl | exact .inr rfl) (pE_c c_normal_form hr rfl (by rfl) (aG_cons (pE_bin opr_add o_add (pE_ofN (pN_callTy1 call_list_of c_list (by rfl) T.b_list bt_list (pB_of (pE_fld (one_cls T.f_1_1) (pB_var (pv 0) (ltb rfl)) (by rfl)))) (un_lst fList_lst)) (pE_ofN (pN_callTy1 call_list_of c_list (by rfl) T.b_list bt_list (pB_of (pE_fld (one_cls T.f_1_1) (pB_var (pv 1) (ltb rfl)) (by rfl)))) (un_lst fList_lst))) (aG_cons (pE_fld (one_cls T.f_1_0) (pB_var (pv 0) (ltb rfl)) (by rfl)) (aG_nil))))) (pSs_one (pS_ret (pE_c c_edges_of hr rfl (by rfl) (aG_cons (pE_bin opr_add o_add (pE_ofN (pN_callTy1 call_list_of c_list (by rfl) T.b_list bt_list (pB_of (pE_fld (one_cls T.f_1_3) (pB_var (pv 0) (ltb rfl)) (by rfl)))) (un_lst fList_lst)) (pE_ofN (pN_callTy1 call_list_of c_list (by rfl) T.b_list bt_list (pB_of (pE_fld (one_cls T.f_1_3) (pB_var (pv 1) (ltb rfl)) (by rfl)))) (un_lst fList_lst))) (aG_cons (pE_ofN (pN_callTy1 call_list_of c_list (by rfl) T.b_list bt_list (pB_var (pv 2) (ltb rfl))) (un_lst fList_lst)) (aG_cons (pE_fld (one_cls T.f_1_0) (pB_var (pv 0) (ltb rfl)) (by rfl)) (aG_nil)))))))
abbrev s_is_places : Stmt := top 37
abbrev nm_is_places : List Str := ["value", "m", "k", "a", "b"]
abbrev ps_is_places : List Str := ["value", "m"]
theorem sc_is_places : FnScope nm_is_places ps_is_places (defScope s_is_places) := ⟨rfl, rfl, rfl, by decide +kernel, rfl, by decide +kernel, by decide +kernel⟩
theorem ok_is_places (T : Txt K mg cA) (c_is_integer : CalE P w K mg base cA 2 "is_integer" 1 fv_is_integer) (D : DefE K mg "is_places" s_is_places ps_is_places) : CalE P w K mg base cA 3 "is_places" 2 fv_is_places :=
  D.cal (N := nm_is_places) (m := 3) (k := 2) sc_is_places rfl rfl fun f cdv A outer s H E hr => by
    exact pSs_cons (pS_if (PW.pt (pW_or (pT_not (pT_val (pE_isi (c := 4) T.tys (pe_bltn (by rfl) T.b_tuple bt_tuple (v := .ty "tuple") rfl) (.ty _) (by rfl) T.b_isinstance (pB_var (pv 0) (ltb rfl))))) (pW_or1 (pT_not (pT_val (pE_callB1 (cr_all rfl) c_all (by rfl) T.b_all bt_all (pB_of (pE_ofN (pN_lc (own := [("k", 2)]) rfl sc_is_places.nd (pJ_n (pv 0) (ltb rfl)) (blkOk_by (by kernel_rfl)) (fun _ _ _ _ _ => pG_name (pg_name (i := 2) sc_is_places.nd rfl (by first | exact .inl rfl | exact .inr rfl)) (ltb rfl) (by decide)) (fun _ _ _ _ _ => pTs_nil) (fun _ _ _ _ _ => pE_and (pE_c c_is_integer hr rfl (by rfl) (aG_cons (pE_var (pv 2) (ltb rfl)) (aG_nil))) (pE_one (pE_chain op_le (o_cmp (p := leZ)) op_lt (o_cmp (p := ltZ)) (pE_int) (pE_var (pv 2) (ltb rfl)) (pE_var (pv 1) (ltb rfl)))))) lc_lst)))))))) (pSs_one (pS_ret (pE_bl))) (pSs_nil)) (pSs_one (pS_ret (pE_callB1 (cr_all rfl) c_all (by rfl) T.b_all bt_all (pB_of (pE_ofN (pN_lc (own := [("a", 3), ("b", 4)]) rfl sc_is_places.nd (pJ_zip (by rfl) T.b_zip (aG_name (pv 0) (ltb rfl) (aG_cons (pE_sl (pE_var (pv 0) (ltb rfl)) (pO_some (pE_int)) (pO_none)) (aG_nil)))) (blkOk_by (by kernel_rfl)) (fun _ _ _ _ _ => pG_tup rfl (pGs_cons (pG_name (pg_name (i := 3) sc_is_places.nd rfl (by first | exact .inl rfl | exact .inr rfl)) (ltb rfl) (by decide)) (pGs_cons (pG_name (pg_name (i := 4) sc_is_places.nd rfl (by first | exact .inl rfl | exact .inr rfl)) (ltb rfl) (by decide)) (pGs_nil)))) (fun _ _ _ _ _ => pTs_nil) (fun _ _ _ _ _ => pE_cmp op_lt (o_cmp (p := ltZ)) (pE_var (pv 3) (ltb rfl)) (pE_var (pv 4) (ltb rfl)) (nomark _))) lc_lst)))))
abbrev s_made_cone : Stmt := top 38
abbrev nm_made_cone : List Str := ["n", "rays", "own", "found", "k"]
abbrev ps_made_cone : List Str := ["n", "rays", "own"]
theorem sc_made_cone : FnScope nm_made_cone ps_made_cone (defScope s_made_cone) := ⟨rfl, rfl, rfl, by decide +kernel, rfl, by decide +kernel, by decide +kernel⟩
theorem ok_made_cone (T : Txt K mg cA) (c_Cone___init__ : MakE P w K mg base cA 7 "Cone" 1 2 iv_Cone___init__) (D : DefE K mg "made_cone" s_made_cone ps_made_cone) : CalE P w K mg base cA 9 "made_cone" 3 fv_made_cone :=
  D.cal (N := nm_made_cone) (m := 2) (k := 8) sc_made_cone rfl rfl fun f cdv A outer s H E hr => by
    exact pSs_cons (pS_if (pT_cmp op_gt (o_cmp (p := gtZ)) (pE_callB1 c_len_all c_len (by rfl) T.b_len bt_len (pB_var (pv 2) (ltb rfl))) (pE_int) (nomark _)) (pSs_no) (pSs_nil)) (pSs_cons (pS_try (fun _ _ h => h) (pSs_one (pS_set (i := 3) sc_made_cone.nd rfl (by first | exact .inl rfl | exact .inr rfl) (pE_mk c_Cone___init__ hr rfl (by rfl) (aG_cons (pE_var (pv 0) (ltb rfl)) (aG_cons (pE_ofN (pN_lc (own := [("k", 4)]) rfl sc_made_cone.nd (pJ_n (pv 2) (ltb rfl)) (blkOk_by (by kernel_rfl)) (fun _ _ _ _ _ => pG_name (pg_name (i := 4) sc_made_cone.nd rfl (by first | exact .inl rfl | exact .inr rfl)) (ltb rfl) (by decide)) (fun _ _ _ _ _ => pTs_nil) (fun _ _ _ _ _ => pE_ixN (pv 1) (ltb rfl) (pE_var (pv 4) (ltb rfl)) (by intro _ _; rfl))) lc_lst) (aG_nil))))))) (pSs_cons (pS_if (pT_cmp (op_neD hr.units) o_ne (pE_callB1 c_len_all c_len (by rfl) T.b_len bt_len (pB_of (pE_fld (one_cls T.f_1_4) (pB_var (pv 3) (ltb rfl)) (by rfl)))) (pE_callB1 c_len_all c_len (by rfl) T.b_len bt_len (pB_var (pv 2) (ltb rfl))) (nomark _)) (pSs_no) (pSs_nil)) (pSs_one (pS_ret (pE_var (pv 3) (ltb rfl))))))
abbrev s_are_face : Stmt := top 40
abbrev nm_are_face : List Str := ["rays", "cone", "v", "lots", "u"]
abbrev ps_are_face : List Str := ["rays", "cone"]
theorem sc_are_face : FnScope nm_are_face ps_are_face (defScope s_are_face) := ⟨rfl, rfl, rfl, by decide +kernel, rfl, by decide +kernel, by decide +kernel⟩
theorem ok_are_face (T : Txt K mg cA) (c_dot : CalE P w K mg base cA 2 "dot" 2 fv_dot) (D : DefE K mg "are_face" s_are_face ps_are_face) : CalE P w K mg base cA 3 "are_face" 2 fv_are_face :=
  D.cal (N := nm_are_face) (m := 3) (k := 2) sc_are_face rfl rfl fun f cdv A outer s H E hr => by
    exact pSs_cons (pS_if (pT_not (pT_val (pE_callB1 (cr_all rfl) c_all (by rfl) T.b_all bt_all (pB_of (pE_ofN (pN_lc (own := [("v", 2)]) rfl sc_are_face.nd (pJ_n (pv 0) (ltb rfl)) (blkOk_by (by kernel_rfl)) (fun _ _ _ _ _ => pG_name (pg_name (i := 2) sc_are_face.nd rfl (by first | exact .inl rfl | exact .inr rfl)) (ltb rfl) (by decide)) (fun _ _ _ _ _ => pTs_nil) (fun _ _ _ _ _ => pE_cmp (op_inDT (hu65 hr)) (o_in (neg := false)) (pE_var (pv 2) (ltb rfl)) (pE_fld (one_cls T.f_1_4) (pB_var (pv 1) (ltb rfl)) (by rfl)) (by with_unfolding_all rfl))) lc_lst))))) (pSs_one (pS_ret (pE_bl))) (pSs_nil)) (pSs_cons (pS_set (i := 3) sc_are_face.nd rfl (by first | exact .inl rfl | exact .inr rfl) (pE_ofN (pN_lc (own := [("u", 4)]) rfl sc_are_face.nd (pJ_of (pI_e (pE_fld (one_cls T.f_1_3) (pB_var (pv 1) (ltb rfl)) (by rfl)))) (blkOk_by (by kernel_rfl)) (fun _ _ _ _ _ => pG_name (pg_name (i := 4) sc_are_face.nd rfl (by first | exact .inl rfl | exact .inr rfl)) (ltb rfl) (by decide)) (fun _ _ _ _ _ => pTs_one (pT_val (pE_callB1 (cr_all rfl) c_all (by rfl) T.b_all bt_all (pB_of (pE_ofN (pN_lc (own := [("v", 2)]) rfl sc_are_face.nd (pJ_n (pv 0) (ltb rfl)) (blkOk_by (by kernel_rfl)) (fun _ _ _ _ _ => pG_name (pg_name (i := 2) sc_are_face.nd rfl (by first | exact .inl rfl | exact .inr rfl)) (ltb rfl) (by decide)) (fun _ _ _ _ _ => pTs_nil) (fun _ _ _ _ _ => pE_cmp (op_eqD hr.units) o_eq (pE_c c_dot hr rfl (by rfl) (aG_cons (pE_var (pv 4) (ltb rfl)) (aG_cons (pE_var (pv 2) (ltb rfl)) (aG_nil)))) (pE_int) (nomark _))) lc_lst))))) (fun _ _ _ _ _ => pE_var (pv 4) (ltb rfl))) lc_lst)) (pSs_one (pS_ret (pE_callB1 (cr_all rfl) c_all (by rfl) T.b_all bt_all (pB_of (pE_ofN (pN_lc (own := [("v", 2)]) rfl sc_are_face.nd (pJ_of (pI_e (pE_fld (one_cls T.f_1_4) (pB_var (pv 1) (ltb rfl)) (by rfl)))) (blkOk_by (by kernel_rfl)) (fun _ _ _ _ _ => pG_name (pg_name (i := 2) sc_are_face.nd rfl (by first | exact .inl rfl | exact .inr rfl)) (ltb rfl) (by decide)) (fun _ _ _ _ _ => pTs_nil) (fun _ _ _ _ _ => pE_or (pE_cmp (op_inDT (hu65 hr)) (o_in (neg := false)) (pE_var (pv 2) (ltb rfl)) (pE_var (pv 0) (ltb rfl)) (by with_unfolding_all rfl)) (pE_one (pE_callB1 (cr_any rfl) c_any (by rfl) T.b_any bt_any (pB_of (pE_ofN (pN_lc (own := [("u", 4)]) rfl sc_are_face.nd (pJ_n (pv 3) (ltb rfl)) (blkOk_by (by kernel_rfl)) (fun _ _ _ _ _ => pG_name (pg_name (i := 4) sc_are_face.nd rfl (by first | exact .inl rfl | exact .inr rfl)) (ltb rfl) (by decide)) (fun _ _ _ _ _ => pTs_nil) (fun _ _ _ _ _ => pE_cmp (op_neD hr.units) o_ne (pE_c c_dot hr rfl (by rfl) (aG_cons (pE_var (pv 4) (ltb rfl)) (aG_cons (pE_var (pv 2) (ltb rfl)) (aG_nil)))) (pE_int) (nomark _))) lc_lst)))))) lc_lst))))))
abbrev s_check_meeting : Stmt := top 39
abbrev nm_check_meeting : List Str := ["parts", "i", "one", "two", "low"]
abbrev ps_check_meeting : List Str := ["parts"]
theorem sc_check_meeting : FnScope nm_check_meeting ps_check_meeting (defScope s_check_meeting) := ⟨rfl, rfl, rfl, by decide +kernel, rfl, by decide +kernel, by decide +kernel⟩
theorem ok_check_meeting (T : Txt K mg cA) (c_crossing_rays : CalE P w K mg base cA 7 "crossing_rays" 2 fv_crossing_rays) (c_are_face : CalE P w K mg base cA 3 "are_face" 2 fv_are_face) (D : DefE K mg "check_meeting" s_check_meeting ps_check_meeting) : CalE P w K mg base cA 8 "check_meeting" 1 fv_check_meeting :=
  D.cal (N := nm_check_meeting) (m := 4) (k := 7) sc_check_meeting rfl rfl fun f cdv A outer s H E hr => by
    exact pSs_one (pS_for (vs := [1, 2]) PassesOwn.never rfl (pI_enum (by rfl) T.b_enumerate (aG_name (pv 0) (ltb rfl) (aG_nil))) (pG_tup rfl (pGs_cons (pG_name (pg_name (i := 1) sc_check_meeting.nd rfl (by first | exact .inl rfl | exact .inr rfl)) (ltb rfl) (by decide)) (pGs_cons (pG_name (pg_name (i := 2) sc_check_meeting.nd rfl (by first | exact .inl rfl | exact .inr rfl)) (ltb rfl) (by decide)) (pGs_nil)))) (pSs_one (pS_for (vs := [3]) PassesOwn.never rfl ((pI_e (pE_sl (pE_var (pv 0) (ltb rfl)) (pO_none) (pO_some (pE_var (pv 1) (ltb rfl)))))) (pG_name (pg_name (i := 3) sc_check_meeting.nd rfl (by first | exact .inl rfl | exact .inr rfl)) (ltb rfl) (by decide)) (pSs_cons (pS_set (i := 4) sc_check_meeting.nd rfl (by first | exact .inl rfl | exact .inr rfl) (pE_c c_crossing_rays hr rfl (by rfl) (aG_cons (pE_var (pv 2) (ltb rfl)) (aG_cons (pE_var (pv 3) (ltb rfl)) (aG_nil))))) (pSs_one (pS_if (PW.pt (pW_or (pT_not (pT_val (pE_c c_are_face hr rfl (by rfl) (aG_cons (pE_var (pv 4) (ltb rfl)) (aG_cons (pE_var (pv 2) (ltb rfl)) (aG_nil)))))) (pW_or (pT_not (pT_val (pE_c c_are_face hr rfl (by rfl) (aG_cons (pE_var (pv 4) (ltb rfl)) (aG_cons (pE_var (pv 3) (ltb rfl)) (aG_nil)))))) (pW_or1 (pT_cmp (op_inDT (hu65 hr)) (o_in (neg := false)) (pE_callB1 c_len_all c_len (by rfl) T.b_len bt_len (pB_var (pv 4) (ltb rfl))) (pE_tup (pA_cons (pE_callB1 c_len_all c_len (by rfl) T.b_len bt_len (pB_of (pE_fld (one_cls T.f_1_4) (pB_var (pv 2) (ltb rfl)) (by rfl)))) (pA_cons (pE_callB1 c_len_all c_len (by rfl) T.b_len bt_len (pB_of (pE_fld (one_cls T.f_1_4) (pB_var (pv 3) (ltb rfl)) (by rfl)))) (pA_nil))) rfl (len_cons (len_cons (len_nil)))) (by with_unfolding_all rfl)))))) (pSs_no) (pSs_nil)))))))
abbrev s_Fan___init__ : Stmt := inClass (top 36) 0
abbrev nm_Fan___init__ : List Str := ["self", "n", "rays", "cones", "v", "own", "used", "k"]
abbrev ps_Fan___init__ : List Str := ["self", "n", "rays", "cones"]
theorem sc_Fan___init__ : FnScope nm_Fan___init__ ps_Fan___init__ (defScope s_Fan___init__) := ⟨rfl, rfl, rfl, by decide +kernel, rfl, by decide +kernel, by decide +kernel⟩
theorem ok_Fan___init__ (T : Txt K mg cA) (c_check_from : CalE P w K mg base cA 3 "check_from" 3 fv_check_from) (c_check_vector : CalE P w K mg base cA 4 "check_vector" 2 fv_check_vector) (c_is_null : CalE P w K mg base cA 2 "is_null" 1 fv_is_null) (c_primitive : CalE P w K mg base cA 4 "primitive" 1 fv_primitive) (c_is_places : CalE P w K mg base cA 3 "is_places" 2 fv_is_places) (c_made_cone : CalE P w K mg base cA 9 "made_cone" 3 fv_made_cone) (c_check_meeting : CalE P w K mg base cA 8 "check_meeting" 1 fv_check_meeting) (D : IniE K mg "Fan" "Fan.__init__" (cA 2) s_Fan___init__ ps_Fan___init__) : MakE P w K mg base cA 10 "Fan" 2 3 iv_Fan___init__ :=
  D.mak (N := nm_Fan___init__) (m := 4) (k := 9) sc_Fan___init__ rfl rfl fun f cdv A outer s H E hr => by
    exact pSs_cons (pS_expr (pE_c c_check_from hr rfl (by rfl) (aG_cons (pE_var (pv 1) (ltb rfl)) (aG_cons (pE_int) (aG_cons (pE_int) (aG_nil)))))) (pSs_cons (pS_if (PW.pt (pW_or (pT_not (pT_val (pE_isi (c := 4) T.tys (pe_bltn (by rfl) T.b_tuple bt_tuple (v := .ty "tuple") rfl) (.ty _) (by rfl) T.b_isinstance (pB_var (pv 2) (ltb rfl))))) (pW_or1 (pT_cmp op_gt (o_cmp (p := gtZ)) (pE_callB1 c_len_all c_len (by rfl) T.b_len bt_len (pB_var (pv 2) (ltb rfl))) (pE_int) (nomark _))))) (pSs_no) (pSs_nil)) (pSs_cons (pS_if (PW.pt (pW_or (pT_not (pT_val (pE_isi (c := 4) T.tys (pe_bltn (by rfl) T.b_tuple bt_tuple (v := .ty "tuple") rfl) (.ty _) (by rfl) T.b_isinstance (pB_var (pv 3) (ltb rfl))))) (pW_or1 (pT_not (pT_chain op_le (o_cmp (p := leZ)) op_le (o_cmp (p := leZ)) (pE_int) (pE_callB1 c_len_all c_len (by rfl) T.b_len bt_len (pB_var (pv 3) (ltb rfl))) (pE_gc (by rfl) T.k_MOST_CONES)))))) (pSs_no) (pSs_nil)) (pSs_cons (pS_for (vs := [4]) PassesOwn.never rfl ((pI_e (pE_var (pv 2) (ltb rfl)))) (pG_name (pg_name (i := 4) sc_Fan___init__.nd rfl (by first | exact .inl rfl | exact .inr rfl)) (ltb rfl) (by decide)) (pSs_cons (pS_expr (pE_c c_check_vector hr rfl (by rfl) (aG_cons (pE_var (pv 4) (ltb rfl)) (aG_cons (pE_var (pv 1) (ltb rfl)) (aG_nil))))) (pSs_one (pS_if (PW.pt (pW_or (pT_val (pE_c c_is_null hr rfl (by rfl) (aG_cons (pE_var (pv 4) (ltb rfl)) (aG_nil)))) (pW_or1 (pT_cmp (op_neD hr.units) o_ne (pE_c c_primitive hr rfl (by rfl) (aG_cons (pE_var (pv 4) (ltb rfl)) (aG_nil))) (pE_var (pv 4) (ltb rfl)) (nomark _))))) (pSs_no) (pSs_nil))))) (pSs_cons (pS_if (PW.pt (pW_or (pT_cmp (op_neD hr.units) o_ne (pE_lenSet rfl hr.units (by rfl) T.b_len (by rfl) T.b_set (pB_var (pv 2) (ltb rfl))) (pE_callB1 c_len_all c_len (by rfl) T.b_len bt_len (pB_var (pv 2) (ltb rfl))) (nomark _)) (pW_or1 (pT_not (pT_val (pE_callB1 (cr_all rfl) c_all (by rfl) T.b_all bt_all (pB_of (pE_ofN (pN_lc (own := [("own", 5)]) rfl sc_Fan___init__.nd (pJ_n (pv 3) (ltb rfl)) (blkOk_by (by kernel_rfl)) (fun _ _ _ _ _ => pG_name (pg_name (i := 5) sc_Fan___init__.nd rfl (by first | exact .inl rfl | exact .inr rfl)) (ltb rfl) (by decide)) (fun _ _ _ _ _ => pTs_nil) (fun _ _ _ _ _ => pE_c c_is_places hr rfl (by rfl) (aG_cons (pE_var (pv 5) (ltb rfl)) (aG_cons (pE_callB1 c_len_all c_len (by rfl) T.b_len bt_len (pB_var (pv 2) (ltb rfl))) (aG_nil))))) lc_lst)))))))) (pSs_no) (pSs_nil)) (pSs_cons (pS_setN (i := 6) sc_Fan___init__.nd rfl (by first | exact .inl rfl | exact .inr rfl) pN_dicK) (pSs_cons (pS_for (vs := [5]) PassesOwn.never rfl ((pI_e (pE_var (pv 3) (ltb rfl)))) (pG_name (pg_name (i := 5) sc_Fan___init__.nd rfl (by first | exact .inl rfl | exact .inr rfl)) (ltb rfl) (by decide)) (pSs_one (pS_for (vs := [7]) PassesOwn.never rfl ((pI_e (pE_var (pv 5) (ltb rfl)))) (pG_name (pg_name (i := 7) sc_Fan___init__.nd rfl (by first | exact .inl rfl | exact .inr rfl)) (ltb rfl) (by decide)) (pSs_one (pS_dput (hu1 hr) (pv 6) (ltb rfl) (pE_var (pv 7) (ltb rfl)) (pE_bl)))))) (pSs_cons (pS_if (PW.pt (pW_or (pT_cmp (op_neD hr.units) o_ne (pE_callB1 c_len_all c_len (by rfl) T.b_len bt_len (pB_var (pv 6) (ltb rfl))) (pE_callB1 c_len_all c_len (by rfl) T.b_len bt_len (pB_var (pv 2) (ltb rfl))) (nomark _)) (pW_or1 (pT_cmp (op_neD hr.units) o_ne (pE_lenSet rfl hr.units (by rfl) T.b_len (by rfl) T.b_set (pB_var (pv 3) (ltb rfl))) (pE_callB1 c_len_all c_len (by rfl) T.b_len bt_len (pB_var (pv 3) (ltb rfl))) (nomark _))))) (pSs_no) (pSs_nil)) (pSs_cons (pS_fld T.f_2_0 (pv 0) (pE_var (pv 1) (ltb rfl))) (pSs_cons (pS_fld T.f_2_1 (pv 0) (pE_var (pv 2) (ltb rfl))) (pSs_cons (pS_fld T.f_2_2 (pv 0) (pE_callTy1 call_tuple_of c_tuple (by rfl) T.b_tuple bt_tuple (pB_of (pE_callB1 (cr_srt rfl) c_sorted (by rfl) T.b_sorted bt_sorted (pB_var (pv 3) (ltb rfl)))))) (pSs_cons (pS_fld T.f_2_3 (pv 0) (pE_callTy1 call_tuple_of c_tuple (by rfl) T.b_tuple bt_tuple (pB_of (pE_ofN (pN_lc (own := [("own", 5)]) rfl sc_Fan___init__.nd (pJ_of (pI_e (pE_fld (one_cls T.f_2_2) (pB_var (pv 0) (ltb rfl)) (by rfl)))) (blkOk_by (by kernel_rfl)) (fun _ _ _ _ _ => pG_name (pg_name (i := 5) sc_Fan___init__.nd rfl (by first | exact .inl rfl | exact .inr rfl)) (ltb rfl) (by decide)) (fun _ _ _ _ _ => pTs_nil) (fun _ _ _ _ _ => pE_c c_made_cone hr rfl (by rfl) (aG_cons (pE_var (pv 1) (ltb rfl)) (aG_cons (pE_var (pv 2) (ltb rfl)) (aG_cons (pE_var (pv 5) (ltb rfl)) (aG_nil)))))) lc_lst)))) (pSs_one (pS_expr (pE_c c_check_meeting hr rfl (by rfl) (aG_cons (pE_fld (one_cls T.f_2_3) (pB_var (pv 0) (ltb rfl)) (by rfl)) (aG_nil))))))))))))))))
abbrev s_projective : Stmt := top 41
abbrev nm_projective : List Str := ["n", "rays", "j", "k", "i"]
abbrev ps_projective : List Str := ["n"]
theorem sc_projective : FnScope nm_projective ps_projective (defScope s_projective) := ⟨rfl, rfl, rfl, by decide +kernel, rfl, by decide +kernel, by decide +kernel⟩
theorem ok_projective (T : Txt K mg cA) (c_check_from : CalE P w K mg base cA 3 "check_from" 3 fv_check_from) (c_Fan___init__ : MakE P w K mg base cA 10 "Fan" 2 3 iv_Fan___init__) (D : DefE K mg "projective" s_projective ps_projective) : CalE P w K mg base cA 12 "projective" 1 fv_projective :=
  D.cal (N := nm_projective) (m := 4) (k := 11) sc_projective rfl rfl fun f cdv A outer s H E hr => by
    exact pSs_cons (pS_expr (pE_c c_check_from hr rfl (by rfl) (aG_cons (pE_var (pv 0) (ltb rfl)) (aG_cons (pE_int) (aG_cons (pE_int) (aG_nil)))))) (pSs_cons (pS_set (i := 1) sc_projective.nd rfl (by first | exact .inl rfl | exact .inr rfl) (pE_bin opr_add o_add (pE_ofN (pN_lc (own := [("k", 3)]) rfl sc_projective.nd (pJ_of (pI_r1 (by rfl) T.b_range (pA_cons (pE_var (pv 0) (ltb rfl)) (pA_nil)))) (blkOk_by (by kernel_rfl)) (fun _ _ _ _ _ => pG_name (pg_name (i := 3) sc_projective.nd rfl (by first | exact .inl rfl | exact .inr rfl)) (ltb rfl) (by decide)) (fun _ _ _ _ _ => pTs_nil) (fun _ _ _ _ _ => pE_callTy1 call_tuple_of c_tuple (by rfl) T.b_tuple bt_tuple (pB_of (pE_ofN (pN_lc (own := [("j", 2)]) rfl sc_projective.nd (pJ_of (pI_r1 (by rfl) T.b_range (pA_cons (pE_var (pv 0) (ltb rfl)) (pA_nil)))) (blkOk_by (by kernel_rfl)) (fun _ _ _ _ _ => pG_name (pg_name (i := 2) sc_projective.nd rfl (by first | exact .inl rfl | exact .inr rfl)) (ltb rfl) (by decide)) (fun _ _ _ _ _ => pTs_nil) (fun _ _ _ _ _ => pE_callTy1 call_int1 c_int (by rfl) T.b_int bt_int (pB_of (pE_cmp (op_eqD hr.units) o_eq (pE_var (pv 2) (ltb rfl)) (pE_var (pv 3) (ltb rfl)) (nomark _))))) lc_lst)))) lc_lst) (pE_lst (pA_cons (pE_bin opr_mul o_mul (pE_tup (pA_cons (pE_un un_neg o_neg (pE_int)) (pA_nil)) rfl (len_cons (len_nil))) (pE_var (pv 0) (ltb rfl))) (pA_nil)) rfl (len_cons (len_nil))))) (pSs_one (pS_ret (pE_mk c_Fan___init__ hr rfl (by rfl) (aG_cons (pE_var (pv 0) (ltb rfl)) (aG_cons (pE_callTy1 call_tuple_of c_tuple (by rfl) T.b_tuple bt_tuple (pB_var (pv 1) (ltb rfl))) (aG_cons (pE_callTy1 call_tuple_of c_tuple (by rfl) T.b_tuple bt_tuple (pB_of (pE_ofN (pN_lc (own := [("i", 4)]) rfl sc_projective.nd (pJ_of (pI_r1 (by rfl) T.b_range (pA_cons (pE_bin opr_add o_add (pE_var (pv 0) (ltb rfl)) (pE_int)) (pA_nil)))) (blkOk_by (by kernel_rfl)) (fun _ _ _ _ _ => pG_name (pg_name (i := 4) sc_projective.nd rfl (by first | exact .inl rfl | exact .inr rfl)) (ltb rfl) (by decide)) (fun _ _ _ _ _ => pTs_nil) (fun _ _ _ _ _ => pE_callTy1 call_tuple_of c_tuple (by rfl) T.b_tuple bt_tuple (pB_of (pE_ofN (pN_lc (own := [("k", 3)]) rfl sc_projective.nd (pJ_of (pI_r1 (by rfl) T.b_range (pA_cons (pE_bin opr_add o_add (pE_var (pv 0) (ltb rfl)) (pE_int)) (pA_nil)))) (blkOk_by (by kernel_rfl)) (fun _ _ _ _ _ => pG_name (pg_name (i := 3) sc_projective.nd rfl (by first | exact .inl rfl | exact .inr rfl)) (ltb rfl) (by decide)) (fun _ _ _ _ _ => pTs_one (pT_cmp (op_neD hr.units) o_ne (pE_var (pv 3) (ltb rfl)) (pE_var (pv 4) (ltb rfl)) (nomark _))) (fun _ _ _ _ _ => pE_var (pv 3) (ltb rfl))) lc_lst)))) lc_lst))) (aG_nil))))))))
abbrev s_round_fan : Stmt := top 43
abbrev nm_round_fan : List Str := ["rays", "v", "m", "k"]
abbrev ps_round_fan : List Str := ["rays"]
theorem sc_round_fan : FnScope nm_round_fan ps_round_fan (defScope s_round_fan) := ⟨rfl, rfl, rfl, by decide +kernel, rfl, by decide +kernel, by decide +kernel⟩
theorem ok_round_fan (T : Txt K mg cA) (c_check_vector : CalE P w K mg base cA 4 "check_vector" 2 fv_check_vector) (c_Fan___init__ : MakE P w K mg base cA 10 "Fan" 2 3 iv_Fan___init__) (D : DefE K mg "round_fan" s_round_fan ps_round_fan) : CalE P w K mg base cA 12 "round_fan" 1 fv_round_fan :=
  D.cal (N := nm_round_fan) (m := 3) (k := 11) sc_round_fan rfl rfl fun f cdv A outer s H E hr => by
    exact pSs_cons (pS_if (PW.pt (pW_or (pT_not (pT_val (pE_isi (c := 4) T.tys (pe_bltn (by rfl) T.b_tuple bt_tuple (v := .ty "tuple") rfl) (.ty _) (by rfl) T.b_isinstance (pB_var (pv 0) (ltb rfl))))) (pW_or1 (pT_not (pT_chain op_le (o_cmp (p := leZ)) op_le (o_cmp (p := leZ)) (pE_int) (pE_callB1 c_len_all c_len (by rfl) T.b_len bt_len (pB_var (pv 0) (ltb rfl))) (pE_int)))))) (pSs_no) (pSs_nil)) (pSs_cons (pS_for (vs := [1]) PassesOwn.never rfl ((pI_e (pE_var (pv 0) (ltb rfl)))) (pG_name (pg_name (i := 1) sc_round_fan.nd rfl (by first | exact .inl rfl | exact .inr rfl)) (ltb rfl) (by decide)) (pSs_one (pS_expr (pE_c c_check_vector hr rfl (by rfl) (aG_cons (pE_var (pv 1) (ltb rfl)) (aG_cons (pE_int) (aG_nil))))))) (pSs_cons (pS_set (i := 2) sc_round_fan.nd rfl (by first | exact .inl rfl | exact .inr rfl) (pE_callB1 c_len_all c_len (by rfl) T.b_len bt_len (pB_var (pv 0) (ltb rfl)))) (pSs_cons (pS_if (pT_not (pT_val (pE_callB1 (cr_all rfl) c_all (by rfl) T.b_all bt_all (pB_of (pE_ofN (pN_lc (own := [("k", 3)]) rfl sc_round_fan.nd (pJ_of (pI_r1 (by rfl) T.b_range (pA_cons (pE_var (pv 2) (ltb rfl)) (pA_nil)))) (blkOk_by (by kernel_rfl)) (fun _ _ _ _ _ => pG_name (pg_name (i := 3) sc_round_fan.nd rfl (by first | exact .inl rfl | exact .inr rfl)) (ltb rfl) (by decide)) (fun _ _ _ _ _ => pTs_nil) (fun _ _ _ _ _ => pE_cmp op_gt (o_cmp (p := gtZ)) (pE_bin op_sub o_sub (pE_bin opr_mul o_mul (pE_ix (pE_ixN (pv 0) (ltb rfl) (pE_var (pv 3) (ltb rfl)) (by intro _ _; rfl)) (pE_int) (by intro _ _; rfl)) (pE_ix (pE_ixN (pv 0) (ltb rfl) (pE_bin op_modN o_mod (pE_bin opr_add o_add (pE_var (pv 3) (ltb rfl)) (pE_int)) (pE_var (pv 2) (ltb rfl))) (by intro _ _; rfl)) (pE_int) (by intro _ _; rfl))) (pE_bin opr_mul o_mul (pE_ix (pE_ixN (pv 0) (ltb rfl) (pE_var (pv 3) (ltb rfl)) (by intro _ _; rfl)) (pE_int) (by intro _ _; rfl)) (pE_ix (pE_ixN (pv 0) (ltb rfl) (pE_bin op_modN o_mod (pE_bin opr_add o_add (pE_var (pv 3) (ltb rfl)) (pE_int)) (pE_var (pv 2) (ltb rfl))) (by intro _ _; rfl)) (pE_int) (by intro _ _; rfl)))) (pE_int) (nomark _))) lc_lst))))) (pSs_no) (pSs_nil)) (pSs_one (pS_try (fun _ _ h => h) (pSs_one (pS_ret (pE_mk c_Fan___init__ hr rfl (by rfl) (aG_cons (pE_int) (aG_cons (pE_var (pv 0) (ltb rfl)) (aG_cons (pE_callTy1 call_tuple_of c_tuple (by rfl) T.b_tuple bt_tuple (pB_of (pE_ofN (pN_lc (own := [("k", 3)]) rfl sc_round_fan.nd (pJ_of (pI_r1 (by rfl) T.b_range (pA_cons (pE_var (pv 2) (ltb rfl)) (pA_nil)))) (blkOk_by (by kernel_rfl)) (fun _ _ _ _ _ => pG_name (pg_name (i := 3) sc_round_fan.nd rfl (by first | exact .inl rfl | exact .inr rfl)) (ltb rfl) (by decide)) (fun _ _ _ _ _ => pTs_nil) (fun _ _ _ _ _ => pE_callTy1 call_tuple_of c_tuple (by rfl) T.b_tuple bt_tuple (pB_of (pE_callB1 (cr_srt rfl) c_sorted (by rfl) T.b_sorted bt_sorted (pB_of (pE_tup (pA_cons (pE_var (pv 3) (ltb rfl)) (pA_cons (pE_bin op_modN o_mod (pE_bin opr_add o_add (pE_var (pv 3) (ltb rfl)) (pE_int)) (pE_var (pv 2) (ltb rfl))) (pA_nil))) rfl (len_cons (len_cons (len_nil))))))))) lc_lst))) (aG_nil))))))))))))
abbrev s_ruled : Stmt := top 42
abbrev nm_ruled : List Str := ["a"]
abbrev ps_ruled : List Str := ["a"]
theorem sc_ruled : FnScope nm_ruled ps_ruled (defScope s_ruled) := ⟨rfl, rfl, rfl, by decide +kernel, rfl, by decide +kernel, by decide +kernel⟩
theorem ok_ruled (T : Txt K mg cA) (c_check_from : CalE P w K mg base cA 3 "check_from" 3 fv_check_from) (c_round_fan : CalE P w K mg base cA 12 "round_fan" 1 fv_round_fan) (D : DefE K mg "ruled" s_ruled ps_ruled) : CalE P w K mg base cA 13 "ruled" 1 fv_ruled :=
  D.cal (N := nm_ruled) (m := 0) (k := 12) sc_ruled rfl rfl fun f cdv A outer s H E hr => by
    exact pSs_cons (pS_expr (pE_c c_check_from hr rfl (by rfl) (aG_cons (pE_var (pv 0) (ltb rfl)) (aG_cons (pE_int) (aG_cons (pE_int) (aG_nil)))))) (pSs_one (pS_ret (pE_c c_round_fan hr rfl (by rfl) (aG_cons (pE_tup (pA_cons (pE_tup (pA_cons (pE_int) (pA_cons (pE_int) (pA_nil))) rfl (len_cons (len_cons (len_nil)))) (pA_cons (pE_tup (pA_cons (pE_int) (pA_cons (pE_int) (pA_nil))) rfl (len_cons (len_cons (len_nil)))) (pA_cons (pE_tup (pA_cons (pE_un un_neg o_neg (pE_int)) (pA_cons (pE_var (pv 0) (ltb rfl)) (pA_nil))) rfl (len_cons (len_cons (len_nil)))) (pA_cons (pE_tup (pA_cons (pE_int) (pA_cons (pE_un un_neg o_neg (pE_int)) (pA_nil))) rfl (len_cons (len_cons (len_nil)))) (pA_nil))))) rfl (len_cons (len_cons (len_cons (len_cons (len_nil)))))) (aG_nil)))))
abbrev s_Ratio___init__ : Stmt := inClass (top 45) 0
abbrev nm_Ratio___init__ : List Str := ["self", "n", "d", "g"]
abbrev ps_Ratio___init__ : List Str := ["self", "n", "d"]
theorem sc_Ratio___init__ : FnScope nm_Ratio___init__ ps_Ratio___init__ (defScope s_Ratio___init__) := ⟨rfl, rfl, rfl, by decide +kernel, rfl, by decide +kernel, by decide +kernel⟩
theorem ok_Ratio___init__ (T : Txt K mg cA) (c_is_integer : CalE P w K mg base cA 2 "is_integer" 1 fv_is_integer) (c_common : CalE P w K mg base cA 2 "common" 2 fv_common) (D : IniE K mg "Ratio" "Ratio.__init__" (cA 0) s_Ratio___init__ ps_Ratio___init__) : MakE P w K mg base cA 3 "Ratio" 0 2 iv_Ratio___init__ :=
  D.mak (N := nm_Ratio___init__) (m := 1) (k := 2) sc_Ratio___init__ rfl rfl fun f cdv A outer s H E hr => by
    exact pSs_cons (pS_if (PW.pt (pW_or (pT_not (pT_val (pE_c c_is_integer hr rfl (by rfl) (aG_cons (pE_var (pv 1) (ltb rfl)) (aG_nil))))) (pW_or1 (pT_not (pT_val (pE_c c_is_integer hr rfl (by rfl) (aG_cons (pE_var (pv 2) (ltb rfl)) (aG_nil)))))))) (pSs_no) (pSs_nil)) (pSs_cons (pS_if (pT_cmp (op_eqD hr.units) o_eq (pE_var (pv 2) (ltb rfl)) (pE_int) (nomark _)) (pSs_no) (pSs_nil)) (pSs_cons (pS_if (pT_cmp op_lt (o_cmp (p := ltZ)) (pE_var (pv 2) (ltb rfl)) (pE_int) (nomark _)) (pSs_one (pS_par (i := 1) (j := 2) rfl sc_Ratio___init__.nd rfl rfl (by decide) rfl rfl (pP_E (pE_un un_neg o_neg (pE_var (pv 1) (ltb rfl))) (pP_E (pE_un un_neg o_neg (pE_var (pv 2) (ltb rfl))) (pP_nil))) (by rfl))) (pSs_nil)) (pSs_cons (pS_set (i := 3) sc_Ratio___init__.nd rfl (by first | exact .inl rfl | exact .inr rfl) (pE_c c_common hr rfl (by rfl) (aG_cons (pE_var (pv 1) (ltb rfl)) (aG_cons (pE_var (pv 2) (ltb rfl)) (aG_nil))))) (pSs_cons (pS_fld T.f_0_0 (pv 0) (pE_bin op_fdivN o_div (pE_var (pv 1) (ltb rfl)) (pE_var (pv 3) (ltb rfl)))) (pSs_one (pS_fld T.f_0_1 (pv 0) (pE_bin op_fdivN o_div (pE_var (pv 2) (ltb rfl)) (pE_var (pv 3) (ltb rfl)))))))))
abbrev s_Ratio___eq__ : Stmt := inClass (top 45) 5
abbrev nm_Ratio___eq__ : List Str := ["self", "other"]
abbrev ps_Ratio___eq__ : List Str := ["self", "other"]
theorem sc_Ratio___eq__ : FnScope nm_Ratio___eq__ ps_Ratio___eq__ (defScope s_Ratio___eq__) := ⟨rfl, rfl, rfl, by decide +kernel, rfl, by decide +kernel, by decide +kernel⟩
theorem ok_Ratio___eq__ (T : Txt K mg cA) (D : EqlE K "Ratio.__eq__" (cA 0) s_Ratio___eq__ ps_Ratio___eq__) : EqFn P w K mg base cA 2 0 fv_Ratio___eq__ :=
  D.eqf (N := nm_Ratio___eq__) (m := 0) (k := 1) sc_Ratio___eq__ rfl rfl fun f cdv A outer s H E hr => by
    exact pSs_one (pS_ret (pE_and (pE_isi (c := 10) T.tys (pe_glob (by rfl) T.m_Ratio (v := .ref (cA 0)) rfl) (.own _) (by rfl) T.b_isinstance (pB_var (pv 1) (ltb rfl))) (pE_and (pE_cmp (op_eqD hr.units) o_eq (pE_fld (one_cls T.f_0_0) (pB_var (pv 0) (ltb rfl)) (by rfl)) (pE_fld (one_cls T.f_0_0) (pB_var (pv 1) (ltb rfl)) (by rfl)) (nomark _)) (pE_one (pE_cmp (op_eqD hr.units) o_eq (pE_fld (one_cls T.f_0_1) (pB_var (pv 0) (ltb rfl)) (by rfl)) (pE_fld (one_cls T.f_0_1) (pB_var (pv 1) (ltb rfl)) (by rfl)) (nomark _))))))
abbrev s_Cone___eq__ : Stmt := inClass (top 28) 1
abbrev nm_Cone___eq__ : List Str := ["self", "other"]
abbrev ps_Cone___eq__ : List Str := ["self", "other"]
theorem sc_Cone___eq__ : FnScope nm_Cone___eq__ ps_Cone___eq__ (defScope s_Cone___eq__) := ⟨rfl, rfl, rfl, by decide +kernel, rfl, by decide +kernel, by decide +kernel⟩
theorem ok_Cone___eq__ (T : Txt K mg cA) (D : EqlE K "Cone.__eq__" (cA 1) s_Cone___eq__ ps_Cone___eq__) : EqFn P w K mg base cA 2 1 fv_Cone___eq__ :=
  D.eqf (N := nm_Cone___eq__) (m := 0) (k := 1) sc_Cone___eq__ rfl rfl fun f cdv A outer s H E hr => by
    exact pSs_one (pS_ret (pE_and (pE_isi (c := 11) T.tys (pe_glob (by rfl) T.m_Cone (v := .ref (cA 1)) rfl) (.own _) (by rfl) T.b_isinstance (pB_var (pv 1) (ltb rfl))) (pE_one (pE_cmp (op_eqD hr.units) o_eq (pE_tup (pA_cons (pE_fld (one_cls T.f_1_0) (pB_var (pv 0) (ltb rfl)) (by rfl)) (pA_cons (pE_fld (one_cls T.f_1_4) (pB_var (pv 0) (ltb rfl)) (by rfl)) (pA_nil))) rfl (len_cons (len_cons (len_nil)))) (pE_tup (pA_cons (pE_fld (one_cls T.f_1_0) (pB_var (pv 1) (ltb rfl)) (by rfl)) (pA_cons (pE_fld (one_cls T.f_1_4) (pB_var (pv 1) (ltb rfl)) (by rfl)) (pA_nil))) rfl (len_cons (len_cons (len_nil)))) (nomark _)))))
abbrev s_Fan___eq__ : Stmt := inClass (top 36) 1
abbrev nm_Fan___eq__ : List Str := ["self", "other"]
abbrev ps_Fan___eq__ : List Str := ["self", "other"]
theorem sc_Fan___eq__ : FnScope nm_Fan___eq__ ps_Fan___eq__ (defScope s_Fan___eq__) := ⟨rfl, rfl, rfl, by decide +kernel, rfl, by decide +kernel, by decide +kernel⟩
theorem ok_Fan___eq__ (T : Txt K mg cA) (D : EqlE K "Fan.__eq__" (cA 2) s_Fan___eq__ ps_Fan___eq__) : EqFn P w K mg base cA 2 2 fv_Fan___eq__ :=
  D.eqf (N := nm_Fan___eq__) (m := 0) (k := 1) sc_Fan___eq__ rfl rfl fun f cdv A outer s H E hr => by
    exact pSs_cons (pS_if (pT_not (pT_val (pE_isi (c := 12) T.tys (pe_glob (by rfl) T.m_Fan (v := .ref (cA 2)) rfl) (.own _) (by rfl) T.b_isinstance (pB_var (pv 1) (ltb rfl))))) (pSs_one (pS_ret (pE_bl))) (pSs_nil)) (pSs_one (pS_ret (pE_cmp (op_eqD hr.units) o_eq (pE_tup (pA_cons (pE_fld (one_cls T.f_2_0) (pB_var (pv 0) (ltb rfl)) (by rfl)) (pA_cons (pE_fld (one_cls T.f_2_1) (pB_var (pv 0) (ltb rfl)) (by rfl)) (pA_cons (pE_fld (one_cls T.f_2_2) (pB_var (pv 0) (ltb rfl)) (by rfl)) (pA_nil)))) rfl (len_cons (len_cons (len_cons (len_nil))))) (pE_tup (pA_cons (pE_fld (one_cls T.f_2_0) (pB_var (pv 1) (ltb rfl)) (by rfl)) (pA_cons (pE_fld (one_cls T.f_2_1) (pB_var (pv 1) (ltb rfl)) (by rfl)) (pA_cons (pE_fld (one_cls T.f_2_2) (pB_var (pv 1) (ltb rfl)) (by rfl)) (pA_nil)))) rfl (len_cons (len_cons (len_cons (len_nil))))) (nomark _))))
abbrev s__law_take : Stmt := top 49
abbrev nm__law_take : List Str := ["state", "m", "value"]
abbrev ps__law_take : List Str := ["state", "m"]
theorem sc__law_take : FnScope nm__law_take ps__law_take (defScope s__law_take) := ⟨rfl, rfl, rfl, by decide +kernel, rfl, by decide +kernel, by decide +kernel⟩
theorem ok__law_take (T : Txt K mg cA) (D : DefE K mg "_law_take" s__law_take ps__law_take) : CalE P w K mg base cA 2 "_law_take" 2 fv__law_take :=
  D.cal (N := nm__law_take) (m := 1) (k := 1) sc__law_take rfl rfl fun f cdv A outer s H E hr => by
    exact pSs_cons (pS_if (pT_cmp op_gt (o_cmp (p := gtZ)) (pE_ixN (pv 0) (ltb rfl) (pE_int) (by intro _ _; rfl)) (pE_int) (nomark _)) (pSs_cons (pS_set (i := 2) sc__law_take.nd rfl (by first | exact .inl rfl | exact .inr rfl) (pE_bin op_modN o_mod (pE_callTy1 call_int1 c_int (by rfl) T.b_int bt_int (pB_of (pE_ixN (pv 0) (ltb rfl) (pE_int) (by intro _ _; rfl)))) (pE_var (pv 1) (ltb rfl)))) (pSs_cons (pS_setIx (pv 0) (ltb rfl) (pE_int) (pE_bin op_fdivN o_div (pE_ixN (pv 0) (ltb rfl) (pE_int) (by intro _ _; rfl)) (pE_var (pv 1) (ltb rfl)))) (pSs_one (pS_ret (pE_var (pv 2) (ltb rfl)))))) (pSs_nil)) (pSs_cons (pS_setIx (pv 0) (ltb rfl) (pE_int) (pE_bin op_modN o_mod (pE_callTy1 call_int1 c_int (by rfl) T.b_int bt_int (pB_of (pE_bin opr_add o_add (pE_bin opr_mul o_mul (pE_ixN (pv 0) (ltb rfl) (pE_int) (by intro _ _; rfl)) (pE_int)) (pE_int)))) (pE_int))) (pSs_one (pS_ret (pE_bin op_modN o_mod (pE_callTy1 call_int1 c_int (by rfl) T.b_int bt_int (pB_of (pE_bin op_fdivN o_div (pE_ixN (pv 0) (ltb rfl) (pE_int) (by intro _ _; rfl)) (pE_int)))) (pE_var (pv 1) (ltb rfl))))))
abbrev s__law_says : Stmt := top 50
abbrev nm__law_says : List Str := ["value", "due"]
abbrev ps__law_says : List Str := ["value", "due"]
theorem sc__law_says : FnScope nm__law_says ps__law_says (defScope s__law_says) := ⟨rfl, rfl, rfl, by decide +kernel, rfl, by decide +kernel, by decide +kernel⟩
theorem ok__law_says (T : Txt K mg cA) (D : DefE K mg "_law_says" s__law_says ps__law_says) : CalE P w K mg base cA 2 "_law_says" 2 fv__law_says :=
  D.cal (N := nm__law_says) (m := 0) (k := 1) sc__law_says rfl rfl fun f cdv A outer s H E hr => by
    exact pSs_one (pS_ret (pE_and (pE_isi (c := 1) T.tys (pe_bltn (by rfl) T.b_bool bt_bool (v := .ty "bool") rfl) (.ty _) (by rfl) T.b_isinstance (pB_var (pv 0) (ltb rfl))) (pE_one (pE_cmp (op_eqD hr.units) o_eq (pE_var (pv 0) (ltb rfl)) (pE_var (pv 1) (ltb rfl)) (nomark _)))))
abbrev s__law_asked : Stmt := top 51
abbrev nm__law_asked : List Str := ["one", "anew", "others", "two"]
abbrev ps__law_asked : List Str := ["one", "anew", "others"]
theorem sc__law_asked : FnScope nm__law_asked ps__law_asked (defScope s__law_asked) := ⟨rfl, rfl, rfl, by decide +kernel, rfl, by decide +kernel, by decide +kernel⟩
theorem ok__law_asked (T : Txt K mg cA) (c__law_says : CalE P w K mg base cA 2 "_law_says" 2 fv__law_says) (Q : EqFns P w K mg base cA 2 eqs) (D : DefE K mg "_law_asked" s__law_asked ps__law_asked) : CalE P w K mg base cA 3 "_law_asked" 3 fv__law_asked :=
  D.cal (N := nm__law_asked) (m := 1) (k := 2) sc__law_asked rfl rfl fun f cdv A outer s H E hr => by
    have hrq : Room 2 (A.deeper _) := hr.mono (by decide)
    exact pSs_cons (pS_if (PW.pt (pW_or (pT_not (pT_val (pE_c c__law_says hr rfl (by rfl) (aG_cons (pE_eqU T.tys Q hrq (pE_var (pv 0) (ltb rfl)) (pE_var (pv 1) (ltb rfl)) (nomark _)) (aG_cons (pE_bl) (aG_nil)))))) (pW_or1 (pT_not (pT_val (pE_c c__law_says hr rfl (by rfl) (aG_cons (pE_eqU T.tys Q hrq (pE_var (pv 1) (ltb rfl)) (pE_var (pv 0) (ltb rfl)) (nomark _)) (aG_cons (pE_bl) (aG_nil))))))))) (pSs_one (pS_ret (pE_bl))) (pSs_nil)) (pSs_one (pS_ret (pE_callB1 (cr_all rfl) c_all (by rfl) T.b_all bt_all (pB_of (pE_ofN (pN_lc (own := [("two", 3)]) rfl sc__law_asked.nd (pJ_n (pv 2) (ltb rfl)) (blkOk_by (by kernel_rfl)) (fun _ _ _ _ _ => pG_name (pg_name (i := 3) sc__law_asked.nd rfl (by first | exact .inl rfl | exact .inr rfl)) (ltb rfl) (by decide)) (fun _ _ _ _ _ => pTs_nil) (fun _ _ _ _ _ => pE_and (pE_c c__law_says hr rfl (by rfl) (aG_cons (pE_eqU T.tys Q hrq (pE_var (pv 0) (ltb rfl)) (pE_var (pv 3) (ltb rfl)) (nomark _)) (aG_cons (pE_bl) (aG_nil)))) (pE_one (pE_c c__law_says hr rfl (by rfl) (aG_cons (pE_eqU T.tys Q hrq (pE_var (pv 3) (ltb rfl)) (pE_var (pv 0) (ltb rfl)) (nomark _)) (aG_cons (pE_bl) (aG_nil))))))) lc_lst)))))
abbrev s__law_ratios_go : Stmt := top 52
abbrev nm__law_ratios_go : List Str := ["state", "a", "b", "k", "one", "others"]
abbrev ps__law_ratios_go : List Str := ["state"]
theorem sc__law_ratios_go : FnScope nm__law_ratios_go ps__law_ratios_go (defScope s__law_ratios_go) := ⟨rfl, rfl, rfl, by decide +kernel, rfl, by decide +kernel, by decide +kernel⟩
theorem ok__law_ratios_go (T : Txt K mg cA) (c__law_take : CalE P w K mg base cA 2 "_law_take" 2 fv__law_take) (c__law_asked : CalE P w K mg base cA 3 "_law_asked" 3 fv__law_asked) (c_Ratio___init__ : MakE P w K mg base cA 3 "Ratio" 0 2 iv_Ratio___init__) (D : DefE K mg "_law_ratios_go" s__law_ratios_go ps__law_ratios_go) : CalE P w K mg base cA 5 "_law_ratios_go" 1 fv__law_ratios_go :=
  D.cal (N := nm__law_ratios_go) (m := 5) (k := 4) sc__law_ratios_go rfl rfl fun f cdv A outer s H E hr => by
    exact pSs_cons (pS_par3 (i := 1) (j := 2) (l := 3) rfl sc__law_ratios_go.nd rfl rfl rfl (by decide) (by decide) (by decide) rfl rfl rfl (pP_E (pE_bin op_sub o_sub (pE_c c__law_take hr rfl (by rfl) (aG_cons (pE_var (pv 0) (ltb rfl)) (aG_cons (pE_int) (aG_nil)))) (pE_int)) (pP_E (pE_bin opr_add o_add (pE_int) (pE_c c__law_take hr rfl (by rfl) (aG_cons (pE_var (pv 0) (ltb rfl)) (aG_cons (pE_int) (aG_nil))))) (pP_E (pE_bin opr_add o_add (pE_int) (pE_c c__law_take hr rfl (by rfl) (aG_cons (pE_var (pv 0) (ltb rfl)) (aG_cons (pE_int) (aG_nil))))) (pP_nil)))) (by rfl)) (pSs_cons (pS_set (i := 4) sc__law_ratios_go.nd rfl (by first | exact .inl rfl | exact .inr rfl) (pE_mk c_Ratio___init__ hr rfl (by rfl) (aG_cons (pE_var (pv 1) (ltb rfl)) (aG_cons (pE_var (pv 2) (ltb rfl)) (aG_nil))))) (pSs_cons (pS_set (i := 5) sc__law_ratios_go.nd rfl (by first | exact .inl rfl | exact .inr rfl) (pE_lst (pA_cons (pE_mk c_Ratio___init__ hr rfl (by rfl) (aG_cons (pE_bin opr_add o_add (pE_var (pv 1) (ltb rfl)) (pE_var (pv 2) (ltb rfl))) (aG_cons (pE_var (pv 2) (ltb rfl)) (aG_nil)))) (pA_cons (pE_mk c_Ratio___init__ hr rfl (by rfl) (aG_cons (pE_bin opr_add o_add (pE_bin opr_mul o_mul (pE_var (pv 1) (ltb rfl)) (pE_var (pv 3) (ltb rfl))) (pE_int)) (aG_cons (pE_bin opr_mul o_mul (pE_var (pv 2) (ltb rfl)) (pE_var (pv 3) (ltb rfl))) (aG_nil)))) (pA_cons (pE_mk c_Ratio___init__ hr rfl (by rfl) (aG_cons (pE_bin op_sub o_sub (pE_un un_neg o_neg (pE_var (pv 1) (ltb rfl))) (pE_int)) (aG_cons (pE_var (pv 2) (ltb rfl)) (aG_nil)))) (pA_cons (pE_non) (pA_cons (pE_str) (pA_cons (pE_tup (pA_cons (pE_fld (one_cls T.f_0_0) (pB_var (pv 4) (ltb rfl)) (by rfl)) (pA_cons (pE_fld (one_cls T.f_0_1) (pB_var (pv 4) (ltb rfl)) (by rfl)) (pA_nil))) rfl (len_cons (len_cons (len_nil)))) (pA_cons (pE_bin opr_add o_add (pE_bin opr_mul o_mul (pE_var (pv 1) (ltb rfl)) (pE_var (pv 2) (ltb rfl))) (pE_int)) (pA_nil)))))))) rfl (len_cons (len_cons (len_cons (len_cons (len_cons (len_cons (len_cons (len_nil)))))))))) (pSs_one (pS_ret (pE_and (pE_c c__law_asked hr rfl (by rfl) (aG_cons (pE_var (pv 4) (ltb rfl)) (aG_cons (pE_mk c_Ratio___init__ hr rfl (by rfl) (aG_cons (pE_bin opr_mul o_mul (pE_un un_neg o_neg (pE_var (pv 3) (ltb rfl))) (pE_var (pv 1) (ltb rfl))) (aG_cons (pE_bin opr_mul o_mul (pE_un un_neg o_neg (pE_var (pv 3) (ltb rfl))) (pE_var (pv 2) (ltb rfl))) (aG_nil)))) (aG_cons (pE_var (pv 5) (ltb rfl)) (aG_nil))))) (pE_and (pE_cmp (op_eqD hr.units) o_eq (pE_bin opr_mul o_mul (pE_fld (one_cls T.f_0_0) (pB_var (pv 4) (ltb rfl)) (by rfl)) (pE_var (pv 2) (ltb rfl))) (pE_bin opr_mul o_mul (pE_var (pv 1) (ltb rfl)) (pE_fld (one_cls T.f_0_1) (pB_var (pv 4) (ltb rfl)) (by rfl))) (nomark _)) (pE_one (pE_cmp op_gt (o_cmp (p := gtZ)) (pE_fld (one_cls T.f_0_1) (pB_var (pv 4) (ltb rfl)) (by rfl)) (pE_int) (nomark _)))))))))
abbrev s__law_cones_go : Stmt := top 53
abbrev nm__law_cones_go : List Str := ["state", "a", "b", "one", "others"]
abbrev ps__law_cones_go : List Str := ["state"]
theorem sc__law_cones_go : FnScope nm__law_cones_go ps__law_cones_go (defScope s__law_cones_go) := ⟨rfl, rfl, rfl, by decide +kernel, rfl, by decide +kernel, by decide +kernel⟩
theorem ok__law_cones_go (T : Txt K mg cA) (c__law_take : CalE P w K mg base cA 2 "_law_take" 2 fv__law_take) (c__law_asked : CalE P w K mg base cA 3 "_law_asked" 3 fv__law_asked) (c_Cone___init__ : MakE P w K mg base cA 7 "Cone" 1 2 iv_Cone___init__) (D : DefE K mg "_law_cones_go" s__law_cones_go ps__law_cones_go) : CalE P w K mg base cA 9 "_law_cones_go" 1 fv__law_cones_go :=
  D.cal (N := nm__law_cones_go) (m := 4) (k := 8) sc__law_cones_go rfl rfl fun f cdv A outer s H E hr => by
    exact pSs_cons (pS_par (i := 1) (j := 2) rfl sc__law_cones_go.nd rfl rfl (by decide) rfl rfl (pP_E (pE_bin op_sub o_sub (pE_c c__law_take hr rfl (by rfl) (aG_cons (pE_var (pv 0) (ltb rfl)) (aG_cons (pE_int) (aG_nil)))) (pE_int)) (pP_E (pE_bin opr_add o_add (pE_int) (pE_c c__law_take hr rfl (by rfl) (aG_cons (pE_var (pv 0) (ltb rfl)) (aG_cons (pE_int) (aG_nil))))) (pP_nil))) (by rfl)) (pSs_cons (pS_set (i := 3) sc__law_cones_go.nd rfl (by first | exact .inl rfl | exact .inr rfl) (pE_mk c_Cone___init__ hr rfl (by rfl) (aG_cons (pE_int) (aG_cons (pE_tup (pA_cons (pE_tup (pA_cons (pE_int) (pA_cons (pE_int) (pA_nil))) rfl (len_cons (len_cons (len_nil)))) (pA_cons (pE_tup (pA_cons (pE_var (pv 1) (ltb rfl)) (pA_cons (pE_var (pv 2) (ltb rfl)) (pA_nil))) rfl (len_cons (len_cons (len_nil)))) (pA_nil))) rfl (len_cons (len_cons (len_nil)))) (aG_nil))))) (pSs_cons (pS_set (i := 4) sc__law_cones_go.nd rfl (by first | exact .inl rfl | exact .inr rfl) (pE_lst (pA_cons (pE_mk c_Cone___init__ hr rfl (by rfl) (aG_cons (pE_int) (aG_cons (pE_tup (pA_cons (pE_tup (pA_cons (pE_int) (pA_cons (pE_int) (pA_nil))) rfl (len_cons (len_cons (len_nil)))) (pA_nil)) rfl (len_cons (len_nil))) (aG_nil)))) (pA_cons (pE_mk c_Cone___init__ hr rfl (by rfl) (aG_cons (pE_int) (aG_cons (pE_tup (pA_cons (pE_tup (pA_cons (pE_int) (pA_cons (pE_int) (pA_nil))) rfl (len_cons (len_cons (len_nil)))) (pA_cons (pE_tup (pA_cons (pE_bin op_sub o_sub (pE_var (pv 1) (ltb rfl)) (pE_int)) (pA_cons (pE_var (pv 2) (ltb rfl)) (pA_nil))) rfl (len_cons (len_cons (len_nil)))) (pA_nil))) rfl (len_cons (len_cons (len_nil)))) (aG_nil)))) (pA_cons (pE_mk c_Cone___init__ hr rfl (by rfl) (aG_cons (pE_int) (aG_cons (pE_tup (pA_cons (pE_tup (pA_cons (pE_un un_neg o_neg (pE_int)) (pA_cons (pE_int) (pA_nil))) rfl (len_cons (len_cons (len_nil)))) (pA_cons (pE_tup (pA_cons (pE_var (pv 1) (ltb rfl)) (pA_cons (pE_var (pv 2) (ltb rfl)) (pA_nil))) rfl (len_cons (len_cons (len_nil)))) (pA_nil))) rfl (len_cons (len_cons (len_nil)))) (aG_nil)))) (pA_cons (pE_mk c_Cone___init__ hr rfl (by rfl) (aG_cons (pE_int) (aG_cons (pE_tup (pA_cons (pE_tup (pA_cons (pE_int) (pA_cons (pE_int) (pA_cons (pE_int) (pA_nil)))) rfl (len_cons (len_cons (len_cons (len_nil))))) (pA_cons (pE_tup (pA_cons (pE_var (pv 1) (ltb rfl)) (pA_cons (pE_var (pv 2) (ltb rfl)) (pA_cons (pE_int) (pA_nil)))) rfl (len_cons (len_cons (len_cons (len_nil))))) (pA_nil))) rfl (len_cons (len_cons (len_nil)))) (aG_nil)))) (pA_cons (pE_non) (pA_cons (pE_int) (pA_cons (pE_fld (one_cls T.f_1_4) (pB_var (pv 3) (ltb rfl)) (by rfl)) (pA_cons (pE_tup (pA_cons (pE_int) (pA_cons (pE_fld (one_cls T.f_1_4) (pB_var (pv 3) (ltb rfl)) (by rfl)) (pA_nil))) rfl (len_cons (len_cons (len_nil)))) (pA_nil))))))))) rfl (len_cons (len_cons (len_cons (len_cons (len_cons (len_cons (len_cons (len_cons (len_nil))))))))))) (pSs_one (pS_ret (pE_and (pE_c c__law_asked hr rfl (by rfl) (aG_cons (pE_var (pv 3) (ltb rfl)) (aG_cons (pE_mk c_Cone___init__ hr rfl (by rfl) (aG_cons (pE_int) (aG_cons (pE_lst (pA_cons (pE_tup (pA_cons (pE_bin opr_mul o_mul (pE_int) (pE_var (pv 1) (ltb rfl))) (pA_cons (pE_bin opr_mul o_mul (pE_int) (pE_var (pv 2) (ltb rfl))) (pA_nil))) rfl (len_cons (len_cons (len_nil)))) (pA_cons (pE_tup (pA_cons (pE_int) (pA_cons (pE_int) (pA_nil))) rfl (len_cons (len_cons (len_nil)))) (pA_cons (pE_tup (pA_cons (pE_bin opr_add o_add (pE_var (pv 1) (ltb rfl)) (pE_int)) (pA_cons (pE_var (pv 2) (ltb rfl)) (pA_nil))) rfl (len_cons (len_cons (len_nil)))) (pA_nil)))) rfl (len_cons (len_cons (len_cons (len_nil))))) (aG_nil)))) (aG_cons (pE_var (pv 4) (ltb rfl)) (aG_nil))))) (pE_one (pE_cmp (op_eqD hr.units) o_eq (pE_fld (one_cls T.f_1_0) (pB_var (pv 3) (ltb rfl)) (by rfl)) (pE_int) (nomark _))))))))
abbrev s__law_fans_go : Stmt := top 54
abbrev nm__law_fans_go : List Str := ["state", "a", "k", "one", "rays", "cones", "turned", "other", "x", "own", "others"]
abbrev ps__law_fans_go : List Str := ["state"]
theorem sc__law_fans_go : FnScope nm__law_fans_go ps__law_fans_go (defScope s__law_fans_go) := ⟨rfl, rfl, rfl, by decide +kernel, rfl, by decide +kernel, by decide +kernel⟩
theorem ok__law_fans_go (T : Txt K mg cA) (c__law_take : CalE P w K mg base cA 2 "_law_take" 2 fv__law_take) (c_ruled : CalE P w K mg base cA 13 "ruled" 1 fv_ruled) (c_projective : CalE P w K mg base cA 12 "projective" 1 fv_projective) (c__law_asked : CalE P w K mg base cA 3 "_law_asked" 3 fv__law_asked) (c_Fan___init__ : MakE P w K mg base cA 10 "Fan" 2 3 iv_Fan___init__) (D : DefE K mg "_law_fans_go" s__law_fans_go ps__law_fans_go) : CalE P w K mg base cA 14 "_law_fans_go" 1 fv__law_fans_go :=
  D.cal (N := nm__law_fans_go) (m := 10) (k := 13) sc__law_fans_go rfl rfl fun f cdv A outer s H E hr => by
    exact pSs_cons (pS_asg (vs := [1, 2]) (pE_tup (pA_cons (pE_c c__law_take hr rfl (by rfl) (aG_cons (pE_var (pv 0) (ltb rfl)) (aG_cons (pE_int) (aG_nil)))) (pA_cons (pE_bin opr_add o_add (pE_int) (pE_c c__law_take hr rfl (by rfl) (aG_cons (pE_var (pv 0) (ltb rfl)) (aG_cons (pE_int) (aG_nil))))) (pA_nil))) rfl (len_cons (len_cons (len_nil)))) (pG_tup rfl (pGs_cons (pG_name (pg_name (i := 1) sc__law_fans_go.nd rfl (by first | exact .inl rfl | exact .inr rfl)) (ltb rfl) (by decide)) (pGs_cons (pG_name (pg_name (i := 2) sc__law_fans_go.nd rfl (by first | exact .inl rfl | exact .inr rfl)) (ltb rfl) (by decide)) (pGs_nil))))) (pSs_cons (pS_set (i := 3) sc__law_fans_go.nd rfl (by first | exact .inl rfl | exact .inr rfl) (pE_c c_ruled hr rfl (by rfl) (aG_cons (pE_var (pv 1) (ltb rfl)) (aG_nil)))) (pSs_cons (pS_par (i := 4) (j := 5) rfl sc__law_fans_go.nd rfl rfl (by decide) rfl rfl (pP_E (pE_fld (one_cls T.f_2_1) (pB_var (pv 3) (ltb rfl)) (by rfl)) (pP_E (pE_fld (one_cls T.f_2_2) (pB_var (pv 3) (ltb rfl)) (by rfl)) (pP_nil))) (by rfl)) (pSs_cons (pS_set (i := 6) sc__law_fans_go.nd rfl (by first | exact .inl rfl | exact .inr rfl) (pE_bin opr_add o_add (pE_sl (pE_var (pv 4) (ltb rfl)) (pO_some (pE_var (pv 2) (ltb rfl))) (pO_none)) (pE_sl (pE_var (pv 4) (ltb rfl)) (pO_none) (pO_some (pE_var (pv 2) (ltb rfl)))))) (pSs_cons (pS_set (i := 7) sc__law_fans_go.nd rfl (by first | exact .inl rfl | exact .inr rfl) (pE_mk c_Fan___init__ hr rfl (by rfl) (aG_cons (pE_int) (aG_cons (pE_var (pv 6) (ltb rfl)) (aG_cons (pE_callTy1 call_tuple_of c_tuple (by rfl) T.b_tuple bt_tuple (pB_of (pE_callB1 (cr_srt rfl) c_sorted (by rfl) T.b_sorted bt_sorted (pB_of (pE_ofN (pN_lc (own := [("own", 9)]) rfl sc__law_fans_go.nd (pJ_n (pv 5) (ltb rfl)) (blkOk_by (by kernel_rfl)) (fun _ _ _ _ _ => pG_name (pg_name (i := 9) sc__law_fans_go.nd rfl (by first | exact .inl rfl | exact .inr rfl)) (ltb rfl) (by decide)) (fun _ _ _ _ _ => pTs_nil) (fun _ _ _ _ _ => pE_callTy1 call_tuple_of c_tuple (by rfl) T.b_tuple bt_tuple (pB_of (pE_callB1 (cr_srt rfl) c_sorted (by rfl) T.b_sorted bt_sorted (pB_of (pE_ofN (pN_lc (own := [("x", 8)]) rfl sc__law_fans_go.nd (pJ_n (pv 9) (ltb rfl)) (blkOk_by (by kernel_rfl)) (fun _ _ _ _ _ => pG_name (pg_name (i := 8) sc__law_fans_go.nd rfl (by first | exact .inl rfl | exact .inr rfl)) (ltb rfl) (by decide)) (fun _ _ _ _ _ => pTs_nil) (fun _ _ _ _ _ => pE_bin op_modN o_mod (pE_callTy1 call_int1 c_int (by rfl) T.b_int bt_int (pB_of (pE_bin op_sub o_sub (pE_var (pv 8) (ltb rfl)) (pE_var (pv 2) (ltb rfl))))) (pE_int))) lc_lst)))))) lc_lst))))) (aG_nil)))))) (pSs_cons (pS_setN (i := 10) sc__law_fans_go.nd rfl (by first | exact .inl rfl | exact .inr rfl) (pN_lst (pA_cons (pE_c c_ruled hr rfl (by rfl) (aG_cons (pE_bin opr_add o_add (pE_var (pv 1) (ltb rfl)) (pE_int)) (aG_nil))) (pA_cons (pE_c c_projective hr rfl (by rfl) (aG_cons (pE_int) (aG_nil))) (pA_cons (pE_var (pv 7) (ltb rfl)) (pA_cons (pE_non) (pA_cons (pE_int) (pA_cons (pE_var (pv 4) (ltb rfl)) (pA_cons (pE_tup (pA_cons (pE_int) (pA_cons (pE_var (pv 4) (ltb rfl)) (pA_cons (pE_var (pv 5) (ltb rfl)) (pA_nil)))) rfl (len_cons (len_cons (len_cons (len_nil))))) (pA_nil)))))))) rfl (len_cons (len_cons (len_cons (len_cons (len_cons (len_cons (len_cons (len_nil)))))))))) (pSs_cons (pS_if (pT_cmp op_gt (o_cmp (p := gtZ)) (pE_var (pv 1) (ltb rfl)) (pE_int) (nomark _)) (pSs_one (pS_app (pv 10) (ltb rfl) (pE_c c_ruled hr rfl (by rfl) (aG_cons (pE_int) (aG_nil))))) (pSs_nil)) (pSs_one (pS_ret (pE_and (pE_c c__law_asked hr rfl (by rfl) (aG_cons (pE_var (pv 3) (ltb rfl)) (aG_cons (pE_mk c_Fan___init__ hr rfl (by rfl) (aG_cons (pE_int) (aG_cons (pE_callTy1 call_tuple_of c_tuple (by rfl) T.b_tuple bt_tuple (pB_of (pE_ofN (pN_callTy1 call_list_of c_list (by rfl) T.b_list bt_list (pB_var (pv 4) (ltb rfl))) (un_lst fList_lst)))) (aG_cons (pE_callTy1 call_tuple_of c_tuple (by rfl) T.b_tuple bt_tuple (pB_of (pE_ofN (pN_callTy1 call_list_of c_list (by rfl) T.b_list bt_list (pB_var (pv 5) (ltb rfl))) (un_lst fList_lst)))) (aG_nil))))) (aG_name (pv 10) (ltb rfl) (aG_nil))))) (pE_and (pE_cmp (op_eqD hr.units) o_eq (pE_fld (one_cls T.f_2_1) (pB_var (pv 7) (ltb rfl)) (by rfl)) (pE_var (pv 6) (ltb rfl)) (nomark _)) (pE_one (pE_cmp (op_neD hr.units) o_ne (pE_fld (one_cls T.f_2_1) (pB_of (pE_c c_ruled hr rfl (by rfl) (aG_cons (pE_bin opr_add o_add (pE_var (pv 1) (ltb rfl)) (pE_int)) (aG_nil)))) (by rfl)) (pE_var (pv 4) (ltb rfl)) (nomark _)))))))))))))
end
end Ev

set_option maxHeartbeats 4000000
namespace Ev
open PySem L2 PySem.Spec PyProof.Rows
section
variable {P : Program} {w : World} {K : PySem.W.Frag} {mg : Str → Option Value} {base : Heap} {cA : Nat → Addr}
/-- _law_state: some list of two ints -/
def spState (K : PySem.W.Frag) : Sp := fun vs H Q _ => ∃ (a : Addr) (ns : List Int), vs = [.ref a] ∧ SqL K H a (ns.map V.int) ∧ ns.length ≤ 63 ∧
  ∀ (H' : Hp) (p : Addr) (s l : Int), H' p = some (.lst [.int s, .int l]) → Q (.ref p) H'
abbrev s_state : Stmt := top 48
abbrev nm_state : List Str := ["script", "seed", "total", "cell"]
theorem sc_state : FnScope nm_state ["script"] (defScope s_state) := ⟨rfl, rfl, rfl, by decide +kernel, rfl, by decide +kernel, by decide +kernel⟩
theorem ok_state {f : Addr} {fd : FuncData} (T : Txt K mg cA) (F : L2.Fun K "_law_state" "_law_state" s_state f fd) : FnOk P w K mg base CX0 2 f fd ["script"] (spState K) := by
  refine F.ok sc_state (fun vs H Q E h => ?_) (fun cdv A outer s H vs Q E hr h => ?_)
  · obtain ⟨a, ns, rfl, _⟩ := h
    rfl
  · obtain ⟨a, ns, rfl, hS, hlen, k⟩ := h
    refine ⟨_, pss_cons (ps_set (i := 1) sc_state.nd rfl (Or.inl rfl) pe_int) (pss_cons (ps_set (i := 2) sc_state.nd rfl (Or.inl rfl) pe_int)
      (pss_cons (ps_for PassesOwn.never rfl (pi_list (pe_slice sl_list (pv 0) po_none (po_some pe_int))) (pg_name (i := 3) sc_state.nd rfl (Or.inl rfl))
        (pss_cons (ps_set (i := 1) sc_state.nd rfl (Or.inl rfl) (pe_op op_add (pe_op op_mul (pv 1) pe_int) (pe_callB call_abs (by rfl) T.b_abs bt_abs (pa_cons (pv 3) pa_nil))))
          (pss_one (ps_set (i := 2) sc_state.nd rfl (Or.inl rfl) (pe_op op_modN (pe_callTy call_int1 (by rfl) T.b_int bt_int (pa_cons (pe_op op_add (pe_op op_mul (pv 2) pe_int) (pv 3)) pa_nil)) pe_int)))))
      (pss_one (ps_ret (pe_lst (pa_cons (pv 1) (pa_cons (pe_ifExp (pt_cmpR op_ne (pv 2) pe_int (nomark _)) (pv 2) pe_int) pa_nil))))))), ?_⟩
    refine ⟨_, rfl, 63, rfl, a, ns.map V.int, rfl, hS, fun p hp => ?_⟩
    have hcut : ∀ y ∈ cutV (ns.map V.int) none (some 63), ∃ z : Int, y = V.int z := fun y hy => by
      have h1 : y ∈ ns.map V.int := List.mem_of_mem_drop (List.mem_of_mem_take hy)
      obtain ⟨z, _, e⟩ := List.mem_map.mp h1
      exact ⟨z, e.symm⟩
    refine ⟨p, rfl, ⟨_, SqL.of upd_same⟩, for_list (K := K) (a := p) (xs := cutV (ns.map V.int) none (some 63)) (fun i σ H' => ∃ (x y : Int) (c : Option V), σ = [some (.ref a), some (.int x), some (.int y), c] ∧ H' p = some (.lst (cutV (ns.map V.int) none (some 63))))
      ⟨0, 1, none, rfl, upd_same⟩ (fun i σ H' _ ⟨_, _, _, _, hp'⟩ => SqL.of hp') ?_ ?_⟩
    · rintro i y σ H' hi ⟨x, t, c, rfl, hp'⟩
      obtain ⟨z, rfl⟩ := hcut y (List.mem_of_getElem? hi)
      refine ⟨_, rfl, x, 1000003, rfl, rfl, .inr (by decide), _, rfl, z, rfl, _, _, rfl, rfl, ?_⟩
      refine ⟨_, rfl, t, 48271, rfl, rfl, .inr (by decide), _, rfl, _, _, rfl, rfl, .inl ⟨_, rfl, _, _, rfl, rfl, (by show (2147483647 : Int) ≠ 0; decide), ?_⟩⟩
      exact ⟨_, _, _, rfl, hp'⟩
    · rintro σ H' ⟨x, t, c, rfl, hp'⟩
      refine ⟨_, rfl, _, rfl, rfl, _, rfl, ?_⟩
      refine ite2 (fun _ => ?_) (fun _ => ?_)
      · exact ⟨_, rfl, by show 2 ≤ _; decide, fun q hq => k _ q x t upd_same⟩
      · exact ⟨by show 2 ≤ _; decide, fun q hq => k _ q x 7 upd_same⟩
/-- law: behind its first statement the evaluator takes over -/
def spLaw (K : PySem.W.Frag) : Sp := fun vs H Q _ => ∃ (a : Addr) (ns : List Int), vs = [.ref a] ∧ SqL K H a (ns.map V.int) ∧ ns.length ≤ 63 ∧ ∀ H', Q (.bl true) H'
abbrev s_law : Stmt := top 55
abbrev nm_law : List Str := ["script", "state", "t"]
theorem sc_law : FnScope nm_law ["script"] (defScope s_law) := ⟨rfl, rfl, rfl, by decide +kernel, rfl, by decide +kernel, by decide +kernel⟩
def g_law : TSv := stSeq (stFor (itR1 (evCons (evC (.int 4)) evNil)) (tgName 2) (stIf (evOr (evNot (evT (evCall 1 fv__law_ratios_go [] (agCons (evVar 1) agNil)))) (evOr (evNot (evT (evCall 1 fv__law_cones_go [] (agCons (evVar 1) agNil)))) (evNot (evT (evCall 1 fv__law_fans_go [] (agCons (evVar 1) agNil))))))
  (stRet (evC (.bl false))) stSkip)) (stRet (evC (.bl true)))
theorem ok_law {f fs : Addr} {fd fds : FuncData} (T : Txt K mg cA) (hst : ∀ w : W, ∃ w', g_law [.no, .fr .st, .no] w = some (.rt (.bl true) w'))
    (c1 : CalE P w K mg base cA 5 "_law_ratios_go" 1 fv__law_ratios_go) (c2 : CalE P w K mg base cA 9 "_law_cones_go" 1 fv__law_cones_go) (c3 : CalE P w K mg base cA 14 "_law_fans_go" 1 fv__law_fans_go)
    (F : L2.Fun K "law" "law" s_law f fd) (Fs : L2.Fun K "_law_state" "_law_state" s_state fs fds) (ms : mg "_law_state" = some (.ref fs)) (bs : Binds K fds ["script"] []) : FnOk P w K mg base CX0 15 f fd ["script"] (spLaw K) := by
  have GS : FnOk P w K mg base CX0 2 fs fds ["script"] (spState K) := ok_state T Fs
  refine F.ok sc_law (fun vs H Q E h => ?_) (fun cdv A outer s H vs Q E hr h => ?_)
  · obtain ⟨a, ns, rfl, _⟩ := h
    rfl
  · obtain ⟨a, ns, rfl, hS, hlen, k⟩ := h
    refine ⟨_, pss_cons (ps_set (i := 1) sc_law.nd rfl (Or.inl rfl) (pe_call GS (hr.mono (by decide)) (by rfl) ms Fs.kp bs .nil pass0 (pa_cons (pv 0) pa_nil)))
      (pSs_cons (cA := cA) (pS_for (vs := [2]) PassesOwn.never rfl (pI_r1 (by rfl) T.b_range (pA_cons pE_int pA_nil)) (pG_name (pg_name (i := 2) sc_law.nd rfl (by first | exact .inl rfl | exact .inr rfl)) (ltb rfl) (by decide))
        (pSs_one (pS_if (PW.pt (pW_or (pT_not (pT_val (pE_c c1 hr rfl (by rfl) (aG_cons (pE_var (pv 1) (ltb rfl)) aG_nil)))) (pW_or (pT_not (pT_val (pE_c c2 hr rfl (by rfl) (aG_cons (pE_var (pv 1) (ltb rfl)) aG_nil)))) (pW_or1 (pT_not (pT_val (pE_c c3 hr rfl (by rfl) (aG_cons (pE_var (pv 1) (ltb rfl)) aG_nil))))))))
          (pSs_one (pS_ret pE_bl)) pSs_nil))) (pSs_one (pS_ret pE_bl))), ?_⟩
    refine ⟨_, rfl, a, ns, rfl, hS, hlen, fun H' p s l hp => ?_⟩
    obtain ⟨w', e⟩ := hst (s, l)
    have e' : stSeq (stFor (itR1 (evCons (evC (.int 4)) evNil)) (tgName 2) (stIf (evOr (evNot (evT (evCall 1 fv__law_ratios_go [] (agCons (evVar 1) agNil)))) (evOr (evNot (evT (evCall 1 fv__law_cones_go [] (agCons (evVar 1) agNil)))) (evNot (evT (evCall 1 fv__law_fans_go [] (agCons (evVar 1) agNil))))))
      (stRet (evC (.bl false))) stSkip)) (stRet (evC (.bl true))) [.no, .fr .st, .no] (s, l) = some (.rt (.bl true) w') := e
    refine ⟨p, fun _ => none, H', fun _ => none, [.no, .fr .st, .no], (s, l), _, ?_, e', ?_⟩
    · refine ⟨Fx.rfl', ⟨fun b o h => (by cases h), rfl, hp⟩, fun j s' ej => ?_, fun i j d e v n h1 _ _ _ => ?_, rfl⟩
      · match j, ej with
        | 0, ej => cases ej; trivial
        | 1, ej => cases ej; exact ⟨.ref p, rfl, rfl⟩
        | 2, ej => cases ej; trivial
      · match i, h1 with
        | 0, h1 => cases h1
        | 1, h1 => cases h1
        | 2, h1 => cases h1
    · intro F' H2 v fx so r
      cases r
      exact k H2
end
end Ev

set_option maxHeartbeats 4000000
namespace Ev
open PySem L2
theorem cone_0_0 (w : W) : g2__law_cones_go [.fr .st, .fr (.int (0 - 3)), .fr (.int (1 + 0)), .no, .no] w = some (.rt (.bl true) w) := by kernel_rfl
theorem cone_0_1 (w : W) : g2__law_cones_go [.fr .st, .fr (.int (0 - 3)), .fr (.int (1 + 1)), .no, .no] w = some (.rt (.bl true) w) := by kernel_rfl
theorem cone_0_2 (w : W) : g2__law_cones_go [.fr .st, .fr (.int (0 - 3)), .fr (.int (1 + 2)), .no, .no] w = some (.rt (.bl true) w) := by kernel_rfl
theorem cone_1_0 (w : W) : g2__law_cones_go [.fr .st, .fr (.int (1 - 3)), .fr (.int (1 + 0)), .no, .no] w = some (.rt (.bl true) w) := by kernel_rfl
theorem cone_1_1 (w : W) : g2__law_cones_go [.fr .st, .fr (.int (1 - 3)), .fr (.int (1 + 1)), .no, .no] w = some (.rt (.bl true) w) := by kernel_rfl
theorem cone_1_2 (w : W) : g2__law_cones_go [.fr .st, .fr (.int (1 - 3)), .fr (.int (1 + 2)), .no, .no] w = some (.rt (.bl true) w) := by kernel_rfl
theorem cone_2_0 (w : W) : g2__law_cones_go [.fr .st, .fr (.int (2 - 3)), .fr (.int (1 + 0)), .no, .no] w = some (.rt (.bl true) w) := by kernel_rfl
theorem cone_2_1 (w : W) : g2__law_cones_go [.fr .st, .fr (.int (2 - 3)), .fr (.int (1 + 1)), .no, .no] w = some (.rt (.bl true) w) := by kernel_rfl
theorem cone_2_2 (w : W) : g2__law_cones_go [.fr .st, .fr (.int (2 - 3)), .fr (.int (1 + 2)), .no, .no] w = some (.rt (.bl true) w) := by kernel_rfl
theorem cone_3_0 (w : W) : g2__law_cones_go [.fr .st, .fr (.int (3 - 3)), .fr (.int (1 + 0)), .no, .no] w = some (.rt (.bl true) w) := by kernel_rfl
theorem cone_3_1 (w : W) : g2__law_cones_go [.fr .st, .fr (.int (3 - 3)), .fr (.int (1 + 1)), .no, .no] w = some (.rt (.bl true) w) := by kernel_rfl
theorem cone_3_2 (w : W) : g2__law_cones_go [.fr .st, .fr (.int (3 - 3)), .fr (.int (1 + 2)), .no, .no] w = some (.rt (.bl true) w) := by kernel_rfl
theorem cone_4_0 (w : W) : g2__law_cones_go [.fr .st, .fr (.int (4 - 3)), .fr (.int (1 + 0)), .no, .no] w = some (.rt (.bl true) w) := by kernel_rfl
theorem cone_4_1 (w : W) : g2__law_cones_go [.fr .st, .fr (.int (4 - 3)), .fr (.int (1 + 1)), .no, .no] w = some (.rt (.bl true) w) := by kernel_rfl
theorem cone_4_2 (w : W) : g2__law_cones_go [.fr .st, .fr (.int (4 - 3)), .fr (.int (1 + 2)), .no, .no] w = some (.rt (.bl true) w) := by kernel_rfl
theorem cone_5_0 (w : W) : g2__law_cones_go [.fr .st, .fr (.int (5 - 3)), .fr (.int (1 + 0)), .no, .no] w = some (.rt (.bl true) w) := by kernel_rfl
theorem cone_5_1 (w : W) : g2__law_cones_go [.fr .st, .fr (.int (5 - 3)), .fr (.int (1 + 1)), .no, .no] w = some (.rt (.bl true) w) := by kernel_rfl
theorem cone_5_2 (w : W) : g2__law_cones_go [.fr .st, .fr (.int (5 - 3)), .fr (.int (1 + 2)), .no, .no] w = some (.rt (.bl true) w) := by kernel_rfl
theorem cone_6_0 (w : W) : g2__law_cones_go [.fr .st, .fr (.int (6 - 3)), .fr (.int (1 + 0)), .no, .no] w = some (.rt (.bl true) w) := by kernel_rfl
theorem cone_6_1 (w : W) : g2__law_cones_go [.fr .st, .fr (.int (6 - 3)), .fr (.int (1 + 1)), .no, .no] w = some (.rt (.bl true) w) := by kernel_rfl
theorem cone_6_2 (w : W) : g2__law_cones_go [.fr .st, .fr (.int (6 - 3)), .fr (.int (1 + 2)), .no, .no] w = some (.rt (.bl true) w) := by kernel_rfl
end Ev

set_option maxHeartbeats 4000000
namespace Ev
open PySem L2
theorem fan_0_0 (w : W) : g2__law_fans_go [.fr .st, .fr (.int 0), .fr (.int (1 + 0)), .no, .no, .no, .no, .no, .no, .no, .no] w = some (.rt (.bl true) w) := by kernel_rfl
theorem fan_0_1 (w : W) : g2__law_fans_go [.fr .st, .fr (.int 0), .fr (.int (1 + 1)), .no, .no, .no, .no, .no, .no, .no, .no] w = some (.rt (.bl true) w) := by kernel_rfl
theorem fan_0_2 (w : W) : g2__law_fans_go [.fr .st, .fr (.int 0), .fr (.int (1 + 2)), .no, .no, .no, .no, .no, .no, .no, .no] w = some (.rt (.bl true) w) := by kernel_rfl
theorem fan_1_0 (w : W) : g2__law_fans_go [.fr .st, .fr (.int 1), .fr (.int (1 + 0)), .no, .no, .no, .no, .no, .no, .no, .no] w = some (.rt (.bl true) w) := by kernel_rfl
theorem fan_1_1 (w : W) : g2__law_fans_go [.fr .st, .fr (.int 1), .fr (.int (1 + 1)), .no, .no, .no, .no, .no, .no, .no, .no] w = some (.rt (.bl true) w) := by kernel_rfl
theorem fan_1_2 (w : W) : g2__law_fans_go [.fr .st, .fr (.int 1), .fr (.int (1 + 2)), .no, .no, .no, .no, .no, .no, .no, .no] w = some (.rt (.bl true) w) := by kernel_rfl
theorem fan_2_0 (w : W) : g2__law_fans_go [.fr .st, .fr (.int 2), .fr (.int (1 + 0)), .no, .no, .no, .no, .no, .no, .no, .no] w = some (.rt (.bl true) w) := by kernel_rfl
theorem fan_2_1 (w : W) : g2__law_fans_go [.fr .st, .fr (.int 2), .fr (.int (1 + 1)), .no, .no, .no, .no, .no, .no, .no, .no] w = some (.rt (.bl true) w) := by kernel_rfl
theorem fan_2_2 (w : W) : g2__law_fans_go [.fr .st, .fr (.int 2), .fr (.int (1 + 2)), .no, .no, .no, .no, .no, .no, .no, .no] w = some (.rt (.bl true) w) := by kernel_rfl
theorem fan_3_0 (w : W) : g2__law_fans_go [.fr .st, .fr (.int 3), .fr (.int (1 + 0)), .no, .no, .no, .no, .no, .no, .no, .no] w = some (.rt (.bl true) w) := by kernel_rfl
theorem fan_3_1 (w : W) : g2__law_fans_go [.fr .st, .fr (.int 3), .fr (.int (1 + 1)), .no, .no, .no, .no, .no, .no, .no, .no] w = some (.rt (.bl true) w) := by kernel_rfl
theorem fan_3_2 (w : W) : g2__law_fans_go [.fr .st, .fr (.int 3), .fr (.int (1 + 2)), .no, .no, .no, .no, .no, .no, .no, .no] w = some (.rt (.bl true) w) := by kernel_rfl
theorem fan_4_0 (w : W) : g2__law_fans_go [.fr .st, .fr (.int 4), .fr (.int (1 + 0)), .no, .no, .no, .no, .no, .no, .no, .no] w = some (.rt (.bl true) w) := by kernel_rfl
theorem fan_4_1 (w : W) : g2__law_fans_go [.fr .st, .fr (.int 4), .fr (.int (1 + 1)), .no, .no, .no, .no, .no, .no, .no, .no] w = some (.rt (.bl true) w) := by kernel_rfl
theorem fan_4_2 (w : W) : g2__law_fans_go [.fr .st, .fr (.int 4), .fr (.int (1 + 2)), .no, .no, .no, .no, .no, .no, .no, .no] w = some (.rt (.bl true) w) := by kernel_rfl
theorem fan_5_0 (w : W) : g2__law_fans_go [.fr .st, .fr (.int 5), .fr (.int (1 + 0)), .no, .no, .no, .no, .no, .no, .no, .no] w = some (.rt (.bl true) w) := by kernel_rfl
theorem fan_5_1 (w : W) : g2__law_fans_go [.fr .st, .fr (.int 5), .fr (.int (1 + 1)), .no, .no, .no, .no, .no, .no, .no, .no] w = some (.rt (.bl true) w) := by kernel_rfl
theorem fan_5_2 (w : W) : g2__law_fans_go [.fr .st, .fr (.int 5), .fr (.int (1 + 2)), .no, .no, .no, .no, .no, .no, .no, .no] w = some (.rt (.bl true) w) := by kernel_rfl
end Ev

set_option maxHeartbeats 4000000
namespace Ev
open PySem L2
/-! ### the draws -/
abbrev eT (m : Int) (x : SV) : Env := [.fr .st, .fr (.int m), x]
theorem ix0 (m s l : Int) (x : SV) : evIxN 0 (evC (.int 0)) (eT m x) (s, l) = some (.int s, eT m x, (s, l)) := rfl
theorem ix1 (m s l : Int) (x : SV) : evIxN 0 (evC (.int 1)) (eT m x) (s, l) = some (.int l, eT m x, (s, l)) := rfl
theorem v1 (m s l : Int) (x : SV) : evVar 1 (eT m x) (s, l) = some (.int m, eT m x, (s, l)) := rfl
theorem tst (m s l : Int) (x : SV) : evT (evBin (fCmp gtZ) (evIxN 0 (evC (.int 0))) (evC (.int 0))) (eT m x) (s, l) = some (decide (0 < s), eT m x, (s, l)) := rfl
theorem put0 {te : TEv} {m s l z : Int} {x : SV} (h : te (eT m x) (s, l) = some (.int z, eT m x, (s, l))) : stSetIx 0 (evC (.int 0)) te (eT m x) (s, l) = some (.nx (eT m x) (z, l)) := by
  unfold stSetIx
  rw [h]
  rfl
theorem put1 {te : TEv} {m s l z : Int} {x : SV} (h : te (eT m x) (s, l) = some (.int z, eT m x, (s, l))) : stSetIx 0 (evC (.int 1)) te (eT m x) (s, l) = some (.nx (eT m x) (s, z)) := by
  unfold stSetIx
  rw [h]
  rfl
theorem mod_m {te : TEv} {m s l z : Int} {x : SV} (hm : nz m = true) (h : te (eT m x) (s, l) = some (.int z, eT m x, (s, l))) : evBin fMod (evUn fInt te) (evVar 1) (eT m x) (s, l) = some (.int (z.fmod m), eT m x, (s, l)) := by
  simp only [evBin, evUn, h, fInt, v1, fMod, hm, if_true]
theorem take_ok (m : Int) (hm : w30 m = true) (hp : 0 < m) (w : W) : ∃ v w', fv__law_take [.fr .st, .fr (.int m)] w = some (.int v, w') ∧ 0 ≤ v ∧ v < m := by
  obtain ⟨s, l⟩ := w
  have hz : nz m = true := by
    unfold nz
    rw [Bool.not_eq_true']
    have := (w30_ok hm).1
    cases q : Nat.beq m.natAbs 0 with
    | false => rfl
    | true => have := Nat.eq_of_beq_eq_true q; omega
  have start : ∀ w, fv__law_take [.fr .st, .fr (.int m)] w = match g__law_take (eT m .no) w with
      | some (.rt d w) => some (d, w)
      | some (.nx _ w) => some (.non, w)
      | _ => none := fun w => rfl
  by_cases h : 0 < s
  · refine ⟨s.fmod m, (s.fdiv m, l), ?_, Int.fmod_nonneg_of_pos _ hp, Int.fmod_lt_of_pos _ hp⟩
    rw [start]
    have hd : evBin fDiv (evIxN 0 (evC (.int 0))) (evVar 1) (eT m (.fr (.int (s.fmod m)))) (s, l) = some (.int (s.fdiv m), eT m (.fr (.int (s.fmod m))), (s, l)) := by
      simp only [evBin, ix0, v1, fDiv, hm, if_true]
    have e1 : stSet 2 (evBin fMod (evUn fInt (evIxN 0 (evC (.int 0)))) (evVar 1)) (eT m .no) (s, l) = some (.nx (eT m (.fr (.int (s.fmod m)))) (s, l)) := by
      unfold stSet
      rw [mod_m hz (ix0 m s l .no)]
      rfl
    have e2 : g__law_take (eT m .no) (s, l) = some (.rt (.int (s.fmod m)) (s.fdiv m, l)) := by
      unfold g__law_take
      simp only [stSeq, stIf, tst, h, decide_true, e1, put0 hd]
      rfl
    rw [e2]
  · refine ⟨_, (s, (l * 48271 + 11).fmod 2147483647), ?_, Int.fmod_nonneg_of_pos ((((l * 48271 + 11).fmod 2147483647)).fdiv 7) hp, Int.fmod_lt_of_pos _ hp⟩
    rw [start]
    have w1 : (w64 l || w64 48271) = true := by
      have : w64 48271 = true := by decide
      rw [this, Bool.or_true]
    have n1 : nz 2147483647 = true := by decide
    have n2 : w30 7 = true := by decide
    have hl : evBin fMod (evUn fInt (evBin fAdd (evBin fMul (evIxN 0 (evC (.int 1))) (evC (.int 48271))) (evC (.int 11)))) (evC (.int 2147483647)) (eT m .no) (s, l) = some (.int ((l * 48271 + 11).fmod 2147483647), eT m .no, (s, l)) := by
      simp only [evBin, evUn, ix1, evC, fMul, fMulI, w1, fAdd, fAddI, fInt, fMod, n1, if_true]
    have h7 : ∀ l', evBin fDiv (evIxN 0 (evC (.int 1))) (evC (.int 7)) (eT m .no) (s, l') = some (.int (l'.fdiv 7), eT m .no, (s, l')) := fun l' => by
      simp only [evBin, ix1, evC, fDiv, n2, if_true]
    have e2 : g__law_take (eT m .no) (s, l) = some (.rt (.int ((((l * 48271 + 11).fmod 2147483647).fdiv 7).fmod m)) (s, (l * 48271 + 11).fmod 2147483647)) := by
      unfold g__law_take
      simp only [stSeq, stIf, tst, h, decide_false, stSkip, put1 hl, stRet, mod_m hz (h7 _)]
    rw [e2]
theorem take_call {m v : Int} {r : Env} {w w' : W} (h : fv__law_take [.fr .st, .fr (.int m)] w = some (.int v, w')) :
    evCall 2 fv__law_take [] (agCons (evVar 0) (agCons (evC (.int m)) (agNil))) (.fr .st :: r) w = some (.int v, .fr .st :: r, w') := by
  have e1 : agCons (evVar 0) (agCons (evC (.int m)) (agNil)) (.fr .st :: r) w = some ([.val .st, .val (.int m)], .fr .st :: r, w) := rfl
  unfold evCall
  rw [e1]
  show (match fv__law_take [.fr .st, .fr (.int m)] w with
    | some (d, w) => some (d, SV.fr .st :: r, w)
    | none => none) = _
  rw [h]
theorem take_sub {m v c : Int} {r : Env} {w w' : W} (h : fv__law_take [.fr .st, .fr (.int m)] w = some (.int v, w')) :
    evBin fSub (evCall 2 fv__law_take [] (agCons (evVar 0) (agCons (evC (.int m)) (agNil)))) (evC (.int c)) (.fr .st :: r) w = some (.int (v - c), .fr .st :: r, w') := by
  unfold evBin
  rw [take_call h]
  rfl
theorem take_add {m v c : Int} {r : Env} {w w' : W} (h : fv__law_take [.fr .st, .fr (.int m)] w = some (.int v, w')) :
    evBin fAdd (evC (.int c)) (evCall 2 fv__law_take [] (agCons (evVar 0) (agCons (evC (.int m)) (agNil)))) (.fr .st :: r) w = some (.int (c + v), .fr .st :: r, w') := by
  unfold evBin
  show (match evCall 2 fv__law_take [] (agCons (evVar 0) (agCons (evC (.int m)) (agNil))) (.fr .st :: r) w with
    | some (y, env, w) => match fAdd (.int c) y with
      | some d => some (d, env, w)
      | none => none
    | none => none) = _
  rw [take_call h]
  rfl
theorem par_E {te : TEv} {r : TPv} {e e' : Env} {d : D} {w w' : W} (h : te e w = some (d, e', w')) : parE te r e w = r (e' ++ [.fr d]) w' := by
  unfold parE
  rw [h]
theorem draw_cones (w : W) : ∃ v1 v2 w', 0 ≤ v1 ∧ v1 < 7 ∧ 0 ≤ v2 ∧ v2 < 3 ∧ g1__law_cones_go [.fr .st, .no, .no, .no, .no] w = some (.nx [.fr .st, .fr (.int (v1 - 3)), .fr (.int (1 + v2)), .no, .no] w') := by
  obtain ⟨v1, w1, e1, a1, b1⟩ := take_ok 7 (by decide) (by decide) w
  obtain ⟨v2, w2, e2, a2, b2⟩ := take_ok 3 (by decide) (by decide) w1
  refine ⟨v1, v2, w2, a1, b1, a2, b2, ?_⟩
  unfold g1__law_cones_go stPar
  rw [par_E (take_sub e1)]
  have := par_E (r := parNil) (take_add (c := 1) (r := [.no, .no, .no, .no] ++ [.fr (.int (v1 - 3))]) e2)
  rw [show ([SV.fr D.st, .no, .no, .no, .no] : Env) ++ [.fr (.int (v1 - 3))] = .fr .st :: ([.no, .no, .no, .no] ++ [.fr (.int (v1 - 3))]) from rfl, this]
  rfl
theorem draw_fans (w : W) : ∃ v1 v2 w', 0 ≤ v1 ∧ v1 < 6 ∧ 0 ≤ v2 ∧ v2 < 3 ∧ g1__law_fans_go [.fr .st, .no, .no, .no, .no, .no, .no, .no, .no, .no, .no] w = some (.nx [.fr .st, .fr (.int v1), .fr (.int (1 + v2)), .no, .no, .no, .no, .no, .no, .no, .no] w') := by
  obtain ⟨v1, w1, e1, a1, b1⟩ := take_ok 6 (by decide) (by decide) w
  obtain ⟨v2, w2, e2, a2, b2⟩ := take_ok 3 (by decide) (by decide) w1
  refine ⟨v1, v2, w2, a1, b1, a2, b2, ?_⟩
  unfold g1__law_fans_go stAsg evTup evCons
  rw [take_call e1]
  show (match (match (match (match evBin fAdd (evC (.int 1)) (evCall 2 fv__law_take [] (agCons (evVar 0) (agCons (evC (.int 3)) (agNil)))) [.fr .st, .no, .no, .no, .no, .no, .no, .no, .no, .no, .no] w1 with
    | some (x, env, w) => match evNil env w with
      | some (xs, env, w) => some (x :: xs, env, w)
      | none => none
    | none => none) with
    | some (xs, env, w) => some (D.int v1 :: xs, env, w)
    | none => none) with
    | some (xs, env, w) => some (D.tup xs, env, w)
    | none => none) with
    | some (d, env, w) => match tgTup 2 (tgCons (tgName 1) (tgCons (tgName 2) (tgNil))) d env with
      | some env => some (Fl.nx env w)
      | none => none
    | none => none) = _
  rw [take_add e2]
  rfl
theorem draw_ratios (w : W) : ∃ v1 v2 v3 w', 0 ≤ v1 ∧ v1 < 41 ∧ 0 ≤ v2 ∧ v2 < 12 ∧ 0 ≤ v3 ∧ v3 < 9 ∧ g1__law_ratios_go [.fr .st, .no, .no, .no, .no, .no] w = some (.nx [.fr .st, .fr (.int (v1 - 20)), .fr (.int (1 + v2)), .fr (.int (2 + v3)), .no, .no] w') := by
  obtain ⟨v1, w1, e1, a1, b1⟩ := take_ok 41 (by decide) (by decide) w
  obtain ⟨v2, w2, e2, a2, b2⟩ := take_ok 12 (by decide) (by decide) w1
  obtain ⟨v3, w3, e3, a3, b3⟩ := take_ok 9 (by decide) (by decide) w2
  refine ⟨v1, v2, v3, w3, a1, b1, a2, b2, a3, b3, ?_⟩
  unfold g1__law_ratios_go stPar3
  rw [par_E (take_sub e1)]
  have h2 := par_E (r := parE (evBin fAdd (evC (.int 2)) (evCall 2 fv__law_take [] (agCons (evVar 0) (agCons (evC (.int 9)) (agNil))))) parNil) (take_add (c := 1) (r := [.no, .no, .no, .no, .no] ++ [.fr (.int (v1 - 20))]) e2)
  rw [show ([SV.fr D.st, .no, .no, .no, .no, .no] : Env) ++ [.fr (.int (v1 - 20))] = .fr .st :: ([.no, .no, .no, .no, .no] ++ [.fr (.int (v1 - 20))]) from rfl, h2]
  have h3 := par_E (r := parNil) (take_add (c := 2) (r := [.no, .no, .no, .no, .no] ++ [.fr (.int (v1 - 20))] ++ [.fr (.int (1 + v2))]) e3)
  rw [show (SV.fr D.st :: (([.no, .no, .no, .no, .no] : Env) ++ [.fr (.int (v1 - 20))])) ++ [.fr (.int (1 + v2))] = .fr .st :: ([.no, .no, .no, .no, .no] ++ [.fr (.int (v1 - 20))] ++ [.fr (.int (1 + v2))]) from rfl, h3]
  rfl
end Ev

set_option maxHeartbeats 4000000
namespace Ev
open PySem L2
/-! ### ratios: what the evaluators compute -/
theorem fEq_int (x y : Int) : fEq (.int x) (.int y) = some (.bl (x == y)) := rfl
theorem fNe_int (x y : Int) : fNe (.int x) (.int y) = some (.bl (!(x == y))) := rfl
theorem fEq_bl (x y : Bool) : fEq (.bl x) (.bl y) = some (.bl (x == y)) := rfl
abbrev gc (a b : Int) : Int := ((Int.gcd a b : Nat) : Int)
def cnd : TBv := evT (evBin fNe (evVar 1) (evC (.int 0)))
def bdy : TSv := stPar 0 1 (parE (evVar 1) (parE (evBin fMod (evVar 0) (evVar 1)) (parNil)))
theorem cnd_eq (a b : Int) (w : W) : cnd [.fr (.int a), .fr (.int b)] w = some (!(b == 0), [.fr (.int a), .fr (.int b)], w) := rfl
theorem bdy_eq (a b : Int) (w : W) (h : nz b = true) : bdy [.fr (.int a), .fr (.int b)] w = some (.nx [.fr (.int b), .fr (.int (a.fmod b))] w) := by
  have e : fMod (.int a) (.int b) = some (.int (a.fmod b)) := by simp only [fMod, h, if_true]
  have e2 : evBin fMod (evVar 0) (evVar 1) [.fr (.int a), .fr (.int b), .fr (.int b)] w = some (.int (a.fmod b), [.fr (.int a), .fr (.int b), .fr (.int b)], w) := by
    show (match fMod (.int a) (.int b) with
      | some d => some (d, ([.fr (.int a), .fr (.int b), .fr (.int b)] : Env), w)
      | none => none) = _
    rw [e]
  show (match (match evBin fMod (evVar 0) (evVar 1) [.fr (.int a), .fr (.int b), .fr (.int b)] w with
    | some (d, env, w) => parNil (env ++ [.fr d]) w
    | none => none) with
    | some (env, w) => match unTop env with
      | some (env, y) => match unTop env with
        | some (env, x) => some (Fl.nx ((env.set 0 x).set 1 y) w)
        | none => none
      | none => none
    | none => none) = _
  rw [e2]
  rfl
theorem nz_of {b : Int} (h : b ≠ 0) : nz b = true := by
  unfold nz
  rw [Bool.not_eq_true']
  cases q : Nat.beq b.natAbs 0 with
  | false => rfl
  | true => have := Nat.eq_of_beq_eq_true q; omega
theorem gcd_step (a b : Int) : gc b (a.fmod b) = gc a b := by
  have h1 := Int.mul_fdiv_add_fmod a b
  have e : a.fmod b = a + (-(a.fdiv b)) * b := by
    have := h1
    have h3 : -(a.fdiv b) * b = -(b * a.fdiv b) := by rw [Int.neg_mul, Int.mul_comm]
    omega
  unfold gc
  congr 1
  rw [e]
  have : a + -(a.fdiv b) * b = a + b * (-(a.fdiv b)) := by rw [Int.mul_comm]
  rw [this, Int.gcd_comm b]
  simp
theorem loop_eq : ∀ (n : Nat) (a b : Int) (w : W), 0 ≤ a → 0 ≤ b → b.toNat < n → whL cnd bdy n [.fr (.int a), .fr (.int b)] w = some (.nx [.fr (.int (gc a b)), .fr (.int 0)] w)
  | 0, _, _, _, _, _, h => absurd h (Nat.not_lt_zero _)
  | n + 1, a, b, w, ha, hb, h => by
    unfold whL
    rw [cnd_eq]
    by_cases h0 : b = 0
    · subst h0
      have : gc a 0 = a := by unfold gc; rw [Int.gcd_zero]; omega
      show some (Fl.nx [.fr (.int a), .fr (.int 0)] w) = _
      rw [this]
    · have hq : (!(b == 0)) = true := by
        rw [Bool.not_eq_true', beq_eq_false_iff_ne]; exact h0
      rw [hq]
      show (match bdy [.fr (.int a), .fr (.int b)] w with
        | some (.nx env w) => whL cnd bdy n env w
        | some (.ct env w) => whL cnd bdy n env w
        | some (.bk env w) => some (.nx env w)
        | r => r) = _
      rw [bdy_eq _ _ _ (nz_of h0)]
      have hb1 : 0 < b := by omega
      have m1 := Int.fmod_nonneg_of_pos a hb1
      have m2 := Int.fmod_lt_of_pos a hb1
      show whL cnd bdy n [.fr (.int b), .fr (.int (a.fmod b))] w = _
      rw [loop_eq n b (a.fmod b) w hb m1 (by omega), gcd_step]
theorem common_eq (a b : Int) (w : W) (h : b.natAbs < 300) : fv_common [.fr (.int a), .fr (.int b)] w = some (.int (gc a b), w) := by
  have e1 : stPar 0 1 (parE (evUn fAbs (evLook 0)) (parE (evUn fAbs (evLook 1)) (parNil))) [.fr (.int a), .fr (.int b)] w = some (.nx [.fr (.int (if a < 0 then -a else a)), .fr (.int (if b < 0 then -b else b))] w) := rfl
  have ha : (0 : Int) ≤ (if a < 0 then -a else a) := by split <;> omega
  have hb : (0 : Int) ≤ (if b < 0 then -b else b) := by split <;> omega
  have hl := loop_eq 300 _ _ w ha hb (by split <;> omega)
  have eg : gc (if a < 0 then -a else a) (if b < 0 then -b else b) = gc a b := by
    unfold gc
    split <;> split <;> simp
  rw [eg] at hl
  have hl : stWhile 300 (evT (evBin fNe (evVar 1) (evC (.int 0)))) (stPar 0 1 (parE (evVar 1) (parE (evBin fMod (evVar 0) (evVar 1)) (parNil)))) [.fr (.int (if a < 0 then -a else a)), .fr (.int (if b < 0 then -b else b))] w = some (.nx [.fr (.int (gc a b)), .fr (.int 0)] w) := hl
  have e3 : g_common [.fr (.int a), .fr (.int b)] w = some (.rt (.int (gc a b)) w) := by
    unfold g_common stSeq
    rw [e1]
    show (match stWhile 300 (evT (evBin fNe (evVar 1) (evC (.int 0)))) (stPar 0 1 (parE (evVar 1) (parE (evBin fMod (evVar 0) (evVar 1)) (parNil)))) [.fr (.int (if a < 0 then -a else a)), .fr (.int (if b < 0 then -b else b))] w with
      | some (.nx env w) => stRet (evVar 0) env w
      | r => r) = _
    rw [hl]
    rfl
  show (match g_common [.fr (.int a), .fr (.int b)] w with
    | some (.rt d w) => some (d, w)
    | some (.nx _ w) => some (.non, w)
    | _ => none) = _
  rw [e3]
/-- Ratio(n, d), d above 0 -/
theorem int_ok (n : Int) (e : Env) (w : W) (i : Nat) (h : ix e i = some (.fr (.int n))) : evCall 1 fv_is_integer [] (agCons (evVar i) (agNil)) e w = some (.bl true, e, w) := by
  have e1 : agCons (evVar i) (agNil) e w = some ([.val (.int n)], e, w) := by
    unfold agCons evVar
    rw [h]
    rfl
  unfold evCall
  rw [e1]
  rfl
theorem com_ok {a b : Int} (e : Env) (w : W) {i j : Nat} (h : ix e i = some (.fr (.int a))) (h2 : ix e j = some (.fr (.int b))) (hb : b.natAbs < 300) : evCall 2 fv_common [] (agCons (evVar i) (agCons (evVar j) (agNil))) e w = some (.int (gc a b), e, w) := by
  have e1 : agCons (evVar i) (agCons (evVar j) (agNil)) e w = some ([.val (.int a), .val (.int b)], e, w) := by
    unfold agCons
    have : evVar i e w = some (.int a, e, w) := by unfold evVar; rw [h]
    rw [this]
    have : evVar j e w = some (.int b, e, w) := by unfold evVar; rw [h2]
    simp only [this]
    rfl
  unfold evCall
  rw [e1]
  show (match fv_common [.fr (.int a), .fr (.int b)] w with
    | some (d, w) => some (d, e, w)
    | none => none) = _
  rw [common_eq a b w hb]
theorem evDiv_ok {a g : Int} (e : Env) (w : W) {i j : Nat} (h : ix e i = some (.fr (.int a))) (h2 : ix e j = some (.fr (.int g))) (hg : w30 g = true) : evBin fDiv (evVar i) (evVar j) e w = some (.int (a.fdiv g), e, w) := by
  unfold evBin
  have : evVar i e w = some (.int a, e, w) := by unfold evVar; rw [h]
  rw [this]
  have : evVar j e w = some (.int g, e, w) := by unfold evVar; rw [h2]
  simp only [this, fDiv, hg, if_true]
theorem w30_gc {a b : Int} (h0 : b ≠ 0) (hb : b.natAbs < 300) : w30 (gc a b) = true := by
  unfold w30
  rw [Bool.and_eq_true, Bool.not_eq_true']
  have h1 : (gc a b).natAbs = Int.gcd a b := by unfold gc; exact Int.natAbs_natCast _
  have h2 : Int.gcd a b ≤ b.natAbs := by
    have : Int.gcd a b ∣ b.natAbs := Nat.gcd_dvd_right a.natAbs b.natAbs
    exact Nat.le_of_dvd (by omega) this
  have h3 : Int.gcd a b ≠ 0 := fun e => h0 (Int.gcd_eq_zero_iff.mp e).2
  rw [h1]
  refine ⟨Nat.blt_eq.mpr (by omega), ?_⟩
  cases q : Nat.beq (Int.gcd a b) 0 with
  | false => rfl
  | true => exact absurd (Nat.eq_of_beq_eq_true q) h3
/-- from the gcd on -/
def tailR : TSv := stSeq (stSet 3 (evCall 2 fv_common [] (agCons (evVar 1) (agCons (evVar 2) (agNil))))) (stSeq (stFld 0 0 (evBin fDiv (evVar 1) (evVar 3))) (stFld 0 1 (evBin fDiv (evVar 2) (evVar 3))))
theorem tailR_eq {n d : Int} (w : W) (h0 : d ≠ 0) (hd : d.natAbs < 300) : tailR [.own (.ins 0 []), .fr (.int n), .fr (.int d), .no] w = some (.nx [.own (.ins 0 [.int (n.fdiv (gc n d)), .int (d.fdiv (gc n d))]), .fr (.int n), .fr (.int d), .fr (.int (gc n d))] w) := by
  have hg := w30_gc (a := n) h0 hd
  have e1 : stSet 3 (evCall 2 fv_common [] (agCons (evVar 1) (agCons (evVar 2) (agNil)))) [.own (.ins 0 []), .fr (.int n), .fr (.int d), .no] w = some (.nx [.own (.ins 0 []), .fr (.int n), .fr (.int d), .fr (.int (gc n d))] w) := by
    unfold stSet
    rw [com_ok (a := n) (b := d) _ w (i := 1) (j := 2) rfl rfl hd]
    rfl
  have e2 : stFld 0 0 (evBin fDiv (evVar 1) (evVar 3)) [.own (.ins 0 []), .fr (.int n), .fr (.int d), .fr (.int (gc n d))] w = some (.nx [.own (.ins 0 [.int (n.fdiv (gc n d))]), .fr (.int n), .fr (.int d), .fr (.int (gc n d))] w) := by
    unfold stFld
    rw [evDiv_ok (a := n) (g := gc n d) _ w (i := 1) (j := 3) rfl rfl hg]
    rfl
  have e3 : stFld 0 1 (evBin fDiv (evVar 2) (evVar 3)) [.own (.ins 0 [.int (n.fdiv (gc n d))]), .fr (.int n), .fr (.int d), .fr (.int (gc n d))] w = some (.nx [.own (.ins 0 [.int (n.fdiv (gc n d)), .int (d.fdiv (gc n d))]), .fr (.int n), .fr (.int d), .fr (.int (gc n d))] w) := by
    unfold stFld
    rw [evDiv_ok (a := d) (g := gc n d) _ w (i := 2) (j := 3) rfl rfl hg]
    rfl
  unfold tailR stSeq
  rw [e1]
  show (match stFld 0 0 (evBin fDiv (evVar 1) (evVar 3)) [.own (.ins 0 []), .fr (.int n), .fr (.int d), .fr (.int (gc n d))] w with
    | some (.nx env w) => stFld 0 1 (evBin fDiv (evVar 2) (evVar 3)) env w
    | r => r) = _
  rw [e2]
  exact e3
/-- the normal form -/
def rnum (n d : Int) : Int := if d < 0 then (-n).fdiv (gc (-n) (-d)) else n.fdiv (gc n d)
def rden (n d : Int) : Int := if d < 0 then (-d).fdiv (gc (-n) (-d)) else d.fdiv (gc n d)
theorem init_eq {n d : Int} (w : W) (h0 : d ≠ 0) (hd : d.natAbs < 300) : iv_Ratio___init__ [.fr (.int n), .fr (.int d)] w = some ([.int (rnum n d), .int (rden n d)], w) := by
  have e1 : stIf (evOr (evNot (evT (evCall 1 fv_is_integer [] (agCons (evVar 1) (agNil))))) (evNot (evT (evCall 1 fv_is_integer [] (agCons (evVar 2) (agNil)))))) (stNo) (stSkip) [.own (.ins 0 []), .fr (.int n), .fr (.int d), .no] w = some (.nx [.own (.ins 0 []), .fr (.int n), .fr (.int d), .no] w) := by
    unfold stIf evOr evNot evT
    rw [int_ok n _ w 1 rfl]
    show (match (match (match evCall 1 fv_is_integer [] (agCons (evVar 2) (agNil)) [.own (.ins 0 []), .fr (.int n), .fr (.int d), .no] w with
      | some (.bl b, env, w) => some (b, env, w)
      | _ => none) with
      | some (b, env, w) => some (!b, env, w)
      | none => none) with
      | some (true, env, w) => stNo env w
      | some (false, env, w) => stSkip env w
      | none => none) = _
    rw [int_ok d _ w 2 rfl]
    rfl
  have e2 : stIf (evT (evBin fEq (evVar 2) (evC (.int 0)))) (stNo) (stSkip) [.own (.ins 0 []), .fr (.int n), .fr (.int d), .no] w = some (.nx [.own (.ins 0 []), .fr (.int n), .fr (.int d), .no] w) := by
    show (match some ((d == 0), ([.own (.ins 0 []), .fr (.int n), .fr (.int d), .no] : Env), w) with
      | some (true, env, w) => stNo env w
      | some (false, env, w) => stSkip env w
      | none => none) = _
    rw [beq_eq_false_iff_ne.mpr h0]
    rfl
  have e3 : stIf (evT (evBin (fCmp ltZ) (evVar 2) (evC (.int 0)))) (stPar 1 2 (parE (evUn fNeg (evVar 1)) (parE (evUn fNeg (evVar 2)) (parNil)))) (stSkip) [.own (.ins 0 []), .fr (.int n), .fr (.int d), .no] w = some (.nx (if d < 0 then [.own (.ins 0 []), .fr (.int (-n)), .fr (.int (-d)), .no] else [.own (.ins 0 []), .fr (.int n), .fr (.int d), .no]) w) := by
    show (match some (decide (d < 0), ([.own (.ins 0 []), .fr (.int n), .fr (.int d), .no] : Env), w) with
      | some (true, env, w) => stPar 1 2 (parE (evUn fNeg (evVar 1)) (parE (evUn fNeg (evVar 2)) (parNil))) env w
      | some (false, env, w) => stSkip env w
      | none => none) = _
    by_cases h : d < 0
    · rw [decide_eq_true h, if_pos h]; rfl
    · rw [decide_eq_false h, if_neg h]; rfl
  have e4 : tailR (if d < 0 then [.own (.ins 0 []), .fr (.int (-n)), .fr (.int (-d)), .no] else [.own (.ins 0 []), .fr (.int n), .fr (.int d), .no]) w = some (.nx (if d < 0 then [.own (.ins 0 [.int (rnum n d), .int (rden n d)]), .fr (.int (-n)), .fr (.int (-d)), .fr (.int (gc (-n) (-d)))] else [.own (.ins 0 [.int (rnum n d), .int (rden n d)]), .fr (.int n), .fr (.int d), .fr (.int (gc n d))]) w) := by
    unfold rnum rden
    by_cases h : d < 0
    · simp only [if_pos h]
      exact tailR_eq w (by omega) (by omega)
    · simp only [if_neg h]
      exact tailR_eq w h0 hd
  have e5 : g_Ratio___init__ [.own (.ins 0 []), .fr (.int n), .fr (.int d), .no] w = tailR (if d < 0 then [.own (.ins 0 []), .fr (.int (-n)), .fr (.int (-d)), .no] else [.own (.ins 0 []), .fr (.int n), .fr (.int d), .no]) w := by
    unfold g_Ratio___init__
    rw [stSeq, e1]
    show stSeq _ _ _ w = _
    rw [stSeq, e2]
    show stSeq _ _ _ w = _
    rw [stSeq, e3]
    rfl
  show (match g_Ratio___init__ [.own (.ins 0 []), .fr (.int n), .fr (.int d), .no] w with
    | some (.nx env w) => match ix env 0 with
      | some (.own (.ins c' ds)) => if Nat.beq c' 0 then some (ds, w) else none
      | _ => none
    | _ => none) = _
  rw [e5, e4]
  by_cases h : d < 0
  · simp only [if_pos h]; rfl
  · simp only [if_neg h]; rfl
/-! ### what is asked -/
theorem says_eq (v d : Bool) (w : W) : fv__law_says [.fr (.bl v), .fr (.bl d)] w = some (.bl (v == d), w) := rfl
theorem says_call {te : TEv} {e : Env} {w w' : W} {v d : Bool} (h : te e w = some (.bl v, e, w')) : evCall 2 fv__law_says [] (agCons te (agCons (evC (.bl d)) (agNil))) e w = some (.bl (v == d), e, w') := by
  unfold evCall agCons
  rw [h]
  rfl
theorem eqU_call {x y : D} {e : Env} {w w' : W} {i j : Nat} {v : Bool} (h1 : evVar i e w = some (x, e, w)) (h2 : evVar j e w = some (y, e, w)) (h : eqU eqs x y w = some (v, w')) : evEqU eqs (evVar i) (evVar j) e w = some (.bl v, e, w') := by
  unfold evEqU
  rw [h1]
  simp only [h2, h]
def elt : TEv := evAndV (evCall 2 fv__law_says [] (agCons (evEqU eqs (evVar 0) (evVar 3)) (agCons (evC (.bl false)) (agNil)))) (evCall 2 fv__law_says [] (agCons (evEqU eqs (evVar 3) (evVar 0)) (agCons (evC (.bl false)) (agNil))))
theorem elt_eq {x y : D} {e : Env} {w : W} (h1 : evVar 0 e w = some (x, e, w)) (h2 : evVar 3 e w = some (y, e, w)) (h : eqU eqs x y w = some (false, w)) (h' : eqU eqs y x w = some (false, w)) : elt e w = some (.bl true, e, w) := by
  unfold elt evAndV
  rw [says_call (eqU_call h1 h2 h)]
  exact says_call (eqU_call h2 h1 h')
theorem lc_asked {x z : D} {s2 : SV} {w : W} : ∀ (l : List D), (∀ y ∈ l, eqU eqs x y w = some (false, w) ∧ eqU eqs y x w = some (false, w)) →
    lcL (tgName 3) evYes elt [.fr x, .fr z, s2, .no] l w = some (l.map fun _ => D.bl true, w)
  | [], _ => rfl
  | y :: l, h => by
    obtain ⟨h1, h2⟩ := h y List.mem_cons_self
    have he := elt_eq (x := x) (y := y) (e := [.fr x, .fr z, s2, .fr y]) (w := w) rfl rfl h1 h2
    show (match elt [.fr x, .fr z, s2, .fr y] w with
      | some (v, _, w) => match lcL (tgName 3) evYes elt [.fr x, .fr z, s2, .no] l w with
        | some (ys, w) => some (v :: ys, w)
        | none => none
      | none => none) = _
    rw [he]
    show (match lcL (tgName 3) evYes elt [.fr x, .fr z, s2, .no] l w with
        | some (ys, w) => some (D.bl true :: ys, w)
        | none => none) = _
    rw [lc_asked l fun y hy => h y (List.mem_cons_of_mem _ hy)]
    rfl
theorem bls_true : ∀ l : List D, toBls (l.map fun _ => D.bl true) = some (l.map fun _ => true)
  | [] => rfl
  | x :: l => by
    show (match toBls (l.map fun _ => D.bl true) with | some is => some (true :: is) | none => none) = _
    rw [bls_true l]
    rfl
theorem all_true (l : List D) : fAll (.lst (l.map fun _ => D.bl true)) = some (.bl true) := by
  show (match toBls (l.map fun _ => D.bl true) with
    | some is => some (D.bl (is.all id))
    | none => none) = _
  rw [bls_true l]
  simp
theorem asked_ok {x z : D} {l : List D} {w : W} (hf : few l.length = true) (h1 : eqU eqs x z w = some (true, w)) (h2 : eqU eqs z x w = some (true, w)) (h : ∀ y ∈ l, eqU eqs x y w = some (false, w) ∧ eqU eqs y x w = some (false, w)) :
    fv__law_asked [.fr x, .fr z, .fr (.lst l)] w = some (.bl true, w) := by
  have e1 : stIf (evOr (evNot (evT (evCall 2 fv__law_says [] (agCons (evEqU eqs (evVar 0) (evVar 1)) (agCons (evC (.bl true)) (agNil)))))) (evNot (evT (evCall 2 fv__law_says [] (agCons (evEqU eqs (evVar 1) (evVar 0)) (agCons (evC (.bl true)) (agNil))))))) (stRet (evC (.bl false))) (stSkip) [.fr x, .fr z, .fr (.lst l), .no] w = some (.nx [.fr x, .fr z, .fr (.lst l), .no] w) := by
    unfold stIf evOr evNot evT
    rw [says_call (eqU_call (i := 0) (j := 1) (x := x) (y := z) rfl rfl h1)]
    show (match (match (match evCall 2 fv__law_says [] (agCons (evEqU eqs (evVar 1) (evVar 0)) (agCons (evC (.bl true)) (agNil))) [.fr x, .fr z, .fr (.lst l), .no] w with
      | some (.bl b, env, w) => some (b, env, w)
      | _ => none) with
      | some (b, env, w) => some (!b, env, w)
      | none => none) with
      | some (true, env, w) => stRet (evC (.bl false)) env w
      | some (false, env, w) => stSkip env w
      | none => none) = _
    rw [says_call (eqU_call (i := 1) (j := 0) (x := z) (y := x) rfl rfl h2)]
    rfl
  have e2 : evLc [3] (itN 2) (tgName 3) (evYes) elt [.fr x, .fr z, .fr (.lst l), .no] w = some (.lst (l.map fun _ => D.bl true), [.fr x, .fr z, .fr (.lst l), .no], w) := by
    show (match lcL (tgName 3) evYes elt [.fr x, .fr z, .fr (.lst l), .no] l w with
      | some (ds, w) => if few ds.length then some (D.lst ds, ([.fr x, .fr z, .fr (.lst l), .no] : Env), w) else none
      | none => none) = _
    rw [lc_asked l h]
    simp only [List.length_map, hf, if_true]
  have e3 : stRet (evUn fAll (evLc [3] (itN 2) (tgName 3) (evYes) elt)) [.fr x, .fr z, .fr (.lst l), .no] w = some (.rt (.bl true) w) := by
    unfold stRet evUn
    rw [e2]
    simp only [all_true]
  show (match g__law_asked [.fr x, .fr z, .fr (.lst l), .no] w with
    | some (.rt d w) => some (d, w)
    | some (.nx _ w) => some (.non, w)
    | _ => none) = _
  have e4 : g__law_asked [.fr x, .fr z, .fr (.lst l), .no] w = some (.rt (.bl true) w) := by
    unfold g__law_asked
    rw [stSeq, e1]
    exact e3
  rw [e4]
/-- Ratio's own == -/
theorem eqR {n d n' d' : Int} (w : W) : eqU eqs (.ins 0 [.int n, .int d]) (.ins 0 [.int n', .int d']) w = some ((n == n') && (d == d'), w) := by
  show toBW (fv_Ratio___eq__ [.fr (.ins 0 [.int n, .int d]), .fr (.ins 0 [.int n', .int d'])] w) = _
  show toBW (match (match (match some (D.bl (n == n'), ([.fr (.ins 0 [.int n, .int d]), .fr (.ins 0 [.int n', .int d'])] : Env), w) with
    | some (.bl true, env, w) => evBin fEq (evFld [0] 1 (evLook 0)) (evFld [0] 1 (evLook 1)) env w
    | some (.bl false, env, w) => some (.bl false, env, w)
    | _ => none) with
    | some (d, _, w) => some (Fl.rt d w)
    | none => none) with
    | some (.rt d w) => some (d, w)
    | some (.nx _ w) => some (.non, w)
    | _ => none) = _
  cases n == n' with
  | true => rfl
  | false => rfl
/-! ### the plain law -/
theorem gc_pos {n d : Int} (h : d ≠ 0) : 0 < gc n d := by
  have h3 : Int.gcd n d ≠ 0 := fun e => h (Int.gcd_eq_zero_iff.mp e).2
  show (0 : Int) < ((Int.gcd n d : Nat) : Int)
  omega
theorem rnum_pos {n d : Int} (h : 0 < d) : rnum n d = n / gc n d ∧ rden n d = d / gc n d := by
  have hg := gc_pos (n := n) (d := d) (by omega)
  unfold rnum rden
  rw [if_neg (by omega), if_neg (by omega)]
  exact ⟨Int.fdiv_eq_ediv_of_nonneg _ (by omega), Int.fdiv_eq_ediv_of_nonneg _ (by omega)⟩
theorem gc_mul_num (n d : Int) : n / gc n d * gc n d = n := Int.ediv_mul_cancel (Int.gcd_dvd_left ..)
theorem gc_mul_den (n d : Int) : d / gc n d * gc n d = d := Int.ediv_mul_cancel (Int.gcd_dvd_right ..)
/-- equal normal forms: equal by crossing -/
theorem cross {n d n' d' : Int} (h : 0 < d) (h' : 0 < d') (e1 : rnum n d = rnum n' d') (e2 : rden n d = rden n' d') : n * d' = n' * d := by
  rw [(rnum_pos h).1, (rnum_pos h').1] at e1
  rw [(rnum_pos h).2, (rnum_pos h').2] at e2
  have a1 := gc_mul_num n d
  have a2 := gc_mul_den n d
  have b1 := gc_mul_num n' d'
  have b2 := gc_mul_den n' d'
  generalize gc n d = g at *
  generalize gc n' d' = g' at *
  rw [← a1, ← b2, ← b1, ← a2, e1, e2]
  rw [Int.mul_assoc, Int.mul_assoc]
  congr 1
  rw [Int.mul_comm g, Int.mul_comm g', Int.mul_assoc, Int.mul_assoc, Int.mul_comm g g']
theorem ne_form {n d n' d' : Int} (h : 0 < d) (h' : 0 < d') (hc : n * d' ≠ n' * d) : ((rnum n d == rnum n' d') && (rden n d == rden n' d')) = false := by
  cases q : (rnum n d == rnum n' d') && (rden n d == rden n' d') with
  | false => rfl
  | true =>
    rw [Bool.and_eq_true] at q
    exact absurd (cross h h' (by simpa using q.1) (by simpa using q.2)) hc
/-- the same ratio, by -k -/
theorem same_form {a b k : Int} (hb : 0 < b) (hk : 0 < k) : rnum (-k * a) (-k * b) = rnum a b ∧ rden (-k * a) (-k * b) = rden a b := by
  have hkb : 0 < k * b := Int.mul_pos hk hb
  have e1 : -k * b = -(k * b) := Int.neg_mul ..
  have e2 : -k * a = -(k * a) := Int.neg_mul ..
  have hg := gc_pos (n := a) (d := b) (by omega)
  have eg : gc (k * a) (k * b) = k * gc a b := by
    unfold gc
    rw [Int.gcd_mul_left]
    have : ((k.natAbs : Nat) : Int) = k := Int.natAbs_of_nonneg (by omega)
    rw [Int.natCast_mul, this]
  have hkg : 0 ≤ k * gc a b := Int.le_of_lt (Int.mul_pos hk hg)
  rw [e1, e2, (rnum_pos hb).1, (rnum_pos hb).2]
  have hn : -(k * b) < 0 := by omega
  unfold rnum rden
  rw [if_pos hn, if_pos hn, Int.neg_neg, Int.neg_neg, eg, Int.fdiv_eq_ediv_of_nonneg _ hkg, Int.fdiv_eq_ediv_of_nonneg _ hkg]
  exact ⟨Int.mul_ediv_mul_of_pos _ _ hk, Int.mul_ediv_mul_of_pos _ _ hk⟩
/-! ### the ratios' go -/
def insR (n d : Int) : D := .ins 0 [.int (rnum n d), .int (rden n d)]
theorem mk_call {ta tb : TEv} {e e1 e2 : Env} {w w1 w2 : W} {n d : Int} (h1 : ta e w = some (.int n, e1, w1)) (h2 : tb e1 w1 = some (.int d, e2, w2)) (h0 : d ≠ 0) (hd : d.natAbs < 300) :
    evMake 0 2 iv_Ratio___init__ [] (agCons ta (agCons tb (agNil))) e w = some (insR n d, e2, w2) := by
  have e3 : agCons ta (agCons tb (agNil)) e w = some ([.val (.int n), .val (.int d)], e2, w2) := by
    unfold agCons
    rw [h1]
    simp only [h2]
    rfl
  unfold evMake
  rw [e3]
  show (match iv_Ratio___init__ [.fr (.int n), .fr (.int d)] w2 with
    | some (ds, w) => some (D.ins 0 ds, e2, w)
    | none => none) = _
  rw [init_eq w2 h0 hd]
  rfl
theorem mul_ok {x y : Int} {ta tb : TEv} {e : Env} {w : W} (h1 : ta e w = some (.int x, e, w)) (h2 : tb e w = some (.int y, e, w)) (h : (w64 x || w64 y) = true) : evBin fMul ta tb e w = some (.int (x * y), e, w) := by
  unfold evBin
  rw [h1]
  simp only [h2, fMul, fMulI, h, if_true]
theorem w64_of {x : Int} (h : x.natAbs < 1000000) : w64 x = true := by
  unfold w64
  exact Nat.blt_eq.mpr (by omega)
theorem w64_l {x y : Int} (h : x.natAbs < 1000000) : (w64 x || w64 y) = true := by rw [w64_of h]; rfl
theorem w64_r {x y : Int} (h : y.natAbs < 1000000) : (w64 x || w64 y) = true := by rw [w64_of h, Bool.or_true]
theorem add_ok {x y : Int} {ta tb : TEv} {e : Env} {w : W} (h1 : ta e w = some (.int x, e, w)) (h2 : tb e w = some (.int y, e, w)) : evBin fAdd ta tb e w = some (.int (x + y), e, w) := by
  unfold evBin
  rw [h1]
  simp only [h2]
  rfl
theorem cons_ok {x : D} {xs : List D} {ta : TEv} {t : TLv} {e : Env} {w : W} (h1 : ta e w = some (x, e, w)) (h2 : t e w = some (xs, e, w)) : evCons ta t e w = some (x :: xs, e, w) := by
  unfold evCons
  rw [h1]
  simp only [h2]
def others (a b k : Int) : List D := [insR (a + b) b, insR (a * k + 1) (b * k), insR (-a - 1) b, .non, .str "1", .tup [.int (rnum a b), .int (rden a b)], .int (a * b + 7)]
theorem rel_num {a b : Int} (hb : 0 < b) : rnum a b * b = a * rden a b := by
  rw [(rnum_pos hb).1, (rnum_pos hb).2]
  have a1 := gc_mul_num a b
  have a2 := gc_mul_den a b
  generalize gc a b = g at *
  have e1 : a / g * b = a / g * (b / g * g) := by rw [a2]
  have e2 : a * (b / g) = a / g * g * (b / g) := by rw [a1]
  rw [e1, e2, Int.mul_assoc, Int.mul_comm g]
theorem rden_pos {a b : Int} (hb : 0 < b) : 0 < rden a b := by
  rw [(rnum_pos hb).2]
  have hg := gc_pos (n := a) (d := b) (by omega)
  have a2 := gc_mul_den a b
  rcases Int.lt_or_le 0 (b / gc a b) with h | h
  · exact h
  · have := Int.mul_le_mul_of_nonneg_right h (Int.le_of_lt hg)
    omega
theorem ne_asked {a b n d : Int} (w : W) (hb : 0 < b) (hd : 0 < d) (h : a * d ≠ n * b) : eqU eqs (insR a b) (insR n d) w = some (false, w) ∧ eqU eqs (insR n d) (insR a b) w = some (false, w) := by
  refine ⟨?_, ?_⟩
  · unfold insR
    rw [eqR, ne_form hb hd h]
  · unfold insR
    rw [eqR, ne_form hd hb (fun e => h e.symm)]
theorem ratio_asked {a b k : Int} (w : W) (hb : 0 < b) (hk : 2 ≤ k) : fv__law_asked [.fr (insR a b), .fr (insR (-k * a) (-k * b)), .fr (.lst (others a b k))] w = some (.bl true, w) := by
  have hbk : 0 < b * k := Int.mul_pos hb (by omega)
  have sf := same_form (a := a) hb (by omega : 0 < k)
  have es : insR (-k * a) (-k * b) = insR a b := by unfold insR; rw [sf.1, sf.2]
  have er : eqU eqs (insR a b) (insR a b) w = some (true, w) := by
    unfold insR
    rw [eqR]
    simp
  refine asked_ok rfl (by rw [es]; exact er) (by rw [es]; exact er) fun y hy => ?_
  have hbb : 0 < b * b := Int.mul_pos hb hb
  rcases List.mem_cons.mp hy with rfl | hy
  · refine ne_asked w hb hb fun e => ?_
    rw [Int.add_mul] at e
    omega
  rcases List.mem_cons.mp hy with rfl | hy
  · refine ne_asked w hb hbk fun e => ?_
    have e1 : a * (b * k) = a * k * b := by rw [Int.mul_comm b k, Int.mul_assoc]
    rw [e1, Int.add_mul] at e
    omega
  rcases List.mem_cons.mp hy with rfl | hy
  · refine ne_asked w hb hb fun e => ?_
    have := Int.eq_of_mul_eq_mul_right (by omega) e
    omega
  rcases List.mem_cons.mp hy with rfl | hy
  · exact ⟨rfl, rfl⟩
  rcases List.mem_cons.mp hy with rfl | hy
  · exact ⟨rfl, rfl⟩
  rcases List.mem_cons.mp hy with rfl | hy
  · exact ⟨rfl, rfl⟩
  rcases List.mem_cons.mp hy with rfl | hy
  · exact ⟨rfl, rfl⟩
  · cases hy
theorem ratio_rest {a b k : Int} (w : W) (ha : a.natAbs ≤ 20) (hb : 0 < b) (hb2 : b ≤ 12) (hk : 2 ≤ k) (hk2 : k ≤ 10) :
    g2__law_ratios_go [.fr .st, .fr (.int a), .fr (.int b), .fr (.int k), .no, .no] w = some (.rt (.bl true) w) := by
  have hbk : 0 < b * k := Int.mul_pos hb (by omega)
  have hbk2 : b * k ≤ 120 := by
    have h1 : b * k ≤ b * 10 := Int.mul_le_mul_of_nonneg_left hk2 (by omega)
    omega
  have hkb : (-k * b).natAbs < 300 := by
    have e : -k * b = -(b * k) := by rw [Int.neg_mul, Int.mul_comm]
    rw [e]
    omega
  have hkb0 : -k * b ≠ 0 := by
    have e : -k * b = -(b * k) := by rw [Int.neg_mul, Int.mul_comm]
    rw [e]
    omega
  have wa : a.natAbs < 1000000 := by omega
  have wb : b.natAbs < 1000000 := by omega
  have wk : (-k).natAbs < 1000000 := by omega
  have s1 : stSet 4 (evMake 0 2 iv_Ratio___init__ [] (agCons (evVar 1) (agCons (evVar 2) (agNil)))) [.fr .st, .fr (.int a), .fr (.int b), .fr (.int k), .no, .no] w = some (.nx [.fr .st, .fr (.int a), .fr (.int b), .fr (.int k), .fr (insR a b), .no] w) := by
    unfold stSet
    rw [mk_call (n := a) (d := b) (e := [.fr .st, .fr (.int a), .fr (.int b), .fr (.int k), .no, .no]) (w := w) rfl rfl (by omega) (by omega)]
    rfl
  have s2 : stSet 5 (evLst (evCons (evMake 0 2 iv_Ratio___init__ [] (agCons (evBin fAdd (evVar 1) (evVar 2)) (agCons (evVar 2) (agNil)))) (evCons (evMake 0 2 iv_Ratio___init__ [] (agCons (evBin fAdd (evBin fMul (evVar 1) (evVar 3)) (evC (.int 1))) (agCons (evBin fMul (evVar 2) (evVar 3)) (agNil)))) (evCons (evMake 0 2 iv_Ratio___init__ [] (agCons (evBin fSub (evUn fNeg (evVar 1)) (evC (.int 1))) (agCons (evVar 2) (agNil)))) (evCons (evC .non) (evCons (evC (.str "1")) (evCons (evTup (evCons (evFld [0] 0 (evLook 4)) (evCons (evFld [0] 1 (evLook 4)) (evNil)))) (evCons (evBin fAdd (evBin fMul (evVar 1) (evVar 2)) (evC (.int 7))) (evNil)))))))))
      [.fr .st, .fr (.int a), .fr (.int b), .fr (.int k), .fr (insR a b), .no] w = some (.nx [.fr .st, .fr (.int a), .fr (.int b), .fr (.int k), .fr (insR a b), .fr (.lst (others a b k))] w) := by
    unfold stSet evLst
    rw [cons_ok (mk_call (n := a + b) (d := b) (e := [.fr .st, .fr (.int a), .fr (.int b), .fr (.int k), .fr (insR a b), .no]) (w := w) rfl rfl (by omega) (by omega))
      (cons_ok (mk_call (n := a * k + 1) (d := b * k) (add_ok (mul_ok (x := a) (y := k) rfl rfl (w64_l wa)) (y := 1) rfl) (mul_ok (x := b) (y := k) rfl rfl (w64_l wb)) (by omega) (by omega))
      (cons_ok (mk_call (n := -a - 1) (d := b) rfl rfl (by omega) (by omega)) (cons_ok (x := .non) rfl (cons_ok (x := .str "1") rfl (cons_ok (x := .tup [.int (rnum a b), .int (rden a b)]) rfl (cons_ok (add_ok (mul_ok (x := a) (y := b) rfl rfl (w64_l wa)) (y := 7) rfl) (xs := []) rfl))))))]
    rfl
  have c1 : evCall 3 fv__law_asked [] (agCons (evVar 4) (agCons (evMake 0 2 iv_Ratio___init__ [] (agCons (evBin fMul (evUn fNeg (evVar 3)) (evVar 1)) (agCons (evBin fMul (evUn fNeg (evVar 3)) (evVar 2)) (agNil)))) (agCons (evVar 5) (agNil)))) [.fr .st, .fr (.int a), .fr (.int b), .fr (.int k), .fr (insR a b), .fr (.lst (others a b k))] w
      = some (.bl true, [.fr .st, .fr (.int a), .fr (.int b), .fr (.int k), .fr (insR a b), .fr (.lst (others a b k))], w) := by
    have e1 : agCons (evVar 4) (agCons (evMake 0 2 iv_Ratio___init__ [] (agCons (evBin fMul (evUn fNeg (evVar 3)) (evVar 1)) (agCons (evBin fMul (evUn fNeg (evVar 3)) (evVar 2)) (agNil)))) (agCons (evVar 5) (agNil))) [.fr .st, .fr (.int a), .fr (.int b), .fr (.int k), .fr (insR a b), .fr (.lst (others a b k))] w
        = some ([.val (insR a b), .val (insR (-k * a) (-k * b)), .val (.lst (others a b k))], [.fr .st, .fr (.int a), .fr (.int b), .fr (.int k), .fr (insR a b), .fr (.lst (others a b k))], w) := by
      have m := mk_call (n := -k * a) (d := -k * b) (e := [.fr .st, .fr (.int a), .fr (.int b), .fr (.int k), .fr (insR a b), .fr (.lst (others a b k))]) (w := w) (mul_ok (ta := evUn fNeg (evVar 3)) (tb := evVar 1) (x := -k) (y := a) rfl rfl (w64_l wk)) (mul_ok (ta := evUn fNeg (evVar 3)) (tb := evVar 2) (x := -k) (y := b) rfl rfl (w64_l wk)) hkb0 hkb
      show (match (match evMake 0 2 iv_Ratio___init__ [] (agCons (evBin fMul (evUn fNeg (evVar 3)) (evVar 1)) (agCons (evBin fMul (evUn fNeg (evVar 3)) (evVar 2)) (agNil))) [.fr .st, .fr (.int a), .fr (.int b), .fr (.int k), .fr (insR a b), .fr (.lst (others a b k))] w with
        | some (x, env, w) => match agCons (evVar 5) (agNil) env w with
          | some (xs, env, w) => some (Arg.val x :: xs, env, w)
          | none => none
        | none => none) with
        | some (xs, env, w) => some (Arg.val (insR a b) :: xs, env, w)
        | none => none) = _
      rw [m]
      rfl
    unfold evCall
    rw [e1]
    show (match fv__law_asked [.fr (insR a b), .fr (insR (-k * a) (-k * b)), .fr (.lst (others a b k))] w with
      | some (d, w) => some (d, ([.fr .st, .fr (.int a), .fr (.int b), .fr (.int k), .fr (insR a b), .fr (.lst (others a b k))] : Env), w)
      | none => none) = _
    rw [ratio_asked w hb hk]
  have m1 := mul_ok (ta := evFld [0] 0 (evLook 4)) (tb := evVar 2) (e := [.fr .st, .fr (.int a), .fr (.int b), .fr (.int k), .fr (insR a b), .fr (.lst (others a b k))]) (w := w) (x := rnum a b) (y := b) rfl rfl (w64_r wb)
  have m2 := mul_ok (ta := evVar 1) (tb := evFld [0] 1 (evLook 4)) (e := [.fr .st, .fr (.int a), .fr (.int b), .fr (.int k), .fr (insR a b), .fr (.lst (others a b k))]) (w := w) (x := a) (y := rden a b) rfl rfl (w64_l wa)
  have c2 : evBin fEq (evBin fMul (evFld [0] 0 (evLook 4)) (evVar 2)) (evBin fMul (evVar 1) (evFld [0] 1 (evLook 4))) [.fr .st, .fr (.int a), .fr (.int b), .fr (.int k), .fr (insR a b), .fr (.lst (others a b k))] w = some (.bl true, [.fr .st, .fr (.int a), .fr (.int b), .fr (.int k), .fr (insR a b), .fr (.lst (others a b k))], w) := by
    unfold evBin at m1 m2 ⊢
    rw [m1]
    simp only [m2, fEq_int, rel_num hb, beq_self_eq_true]
  have c3 : evBin (fCmp gtZ) (evFld [0] 1 (evLook 4)) (evC (.int 0)) [.fr .st, .fr (.int a), .fr (.int b), .fr (.int k), .fr (insR a b), .fr (.lst (others a b k))] w = some (.bl true, [.fr .st, .fr (.int a), .fr (.int b), .fr (.int k), .fr (insR a b), .fr (.lst (others a b k))], w) := by
    show some (D.bl (decide (0 < rden a b)), _, _) = _
    rw [decide_eq_true (rden_pos hb)]
  unfold g2__law_ratios_go
  rw [stSeq, s1]
  show stSeq _ _ _ w = _
  rw [stSeq, s2]
  show stRet _ _ w = _
  unfold stRet evAndV
  rw [c1]
  simp only [c2, c3]
end Ev

set_option maxHeartbeats 4000000
namespace Ev
open PySem L2
theorem small7 {v : Int} (h0 : 0 ≤ v) (h : v < 7) : v = 0 ∨ v = 1 ∨ v = 2 ∨ v = 3 ∨ v = 4 ∨ v = 5 ∨ v = 6 := by omega
theorem small6 {v : Int} (h0 : 0 ≤ v) (h : v < 6) : v = 0 ∨ v = 1 ∨ v = 2 ∨ v = 3 ∨ v = 4 ∨ v = 5 := by omega
theorem small3 {v : Int} (h0 : 0 ≤ v) (h : v < 3) : v = 0 ∨ v = 1 ∨ v = 2 := by omega
theorem fv_of_split {m : Nat} {s1 s2 : TSv} {svs : List SV} {e1 : Env} {w w1 w2 : W} {d : D} (h1 : s1 (svs ++ List.replicate m .no) w = some (.nx e1 w1)) (h2 : s2 e1 w1 = some (.rt d w2)) : fvOf m (stSeq s1 s2) svs w = some (d, w2) := by
  unfold fvOf
  rw [stSeq, h1]
  simp only [h2]
theorem ratios_ok (w : W) : ∃ w', fv__law_ratios_go [.fr .st] w = some (.bl true, w') := by
  obtain ⟨v1, v2, v3, w1, a1, b1, a2, b2, a3, b3, e⟩ := draw_ratios w
  exact ⟨w1, fv_of_split e (ratio_rest w1 (by omega) (by omega) (by omega) (by omega) (by omega))⟩
theorem cone_rest {v1 v2 : Int} (w : W) (a1 : 0 ≤ v1) (b1 : v1 < 7) (a2 : 0 ≤ v2) (b2 : v2 < 3) : g2__law_cones_go [.fr .st, .fr (.int (v1 - 3)), .fr (.int (1 + v2)), .no, .no] w = some (.rt (.bl true) w) := by
  rcases small7 a1 b1 with rfl | rfl | rfl | rfl | rfl | rfl | rfl <;> rcases small3 a2 b2 with rfl | rfl | rfl
  · exact cone_0_0 w
  · exact cone_0_1 w
  · exact cone_0_2 w
  · exact cone_1_0 w
  · exact cone_1_1 w
  · exact cone_1_2 w
  · exact cone_2_0 w
  · exact cone_2_1 w
  · exact cone_2_2 w
  · exact cone_3_0 w
  · exact cone_3_1 w
  · exact cone_3_2 w
  · exact cone_4_0 w
  · exact cone_4_1 w
  · exact cone_4_2 w
  · exact cone_5_0 w
  · exact cone_5_1 w
  · exact cone_5_2 w
  · exact cone_6_0 w
  · exact cone_6_1 w
  · exact cone_6_2 w
theorem cones_ok (w : W) : ∃ w', fv__law_cones_go [.fr .st] w = some (.bl true, w') := by
  obtain ⟨v1, v2, w1, a1, b1, a2, b2, e⟩ := draw_cones w
  exact ⟨w1, fv_of_split e (cone_rest w1 a1 b1 a2 b2)⟩
theorem fan_rest {v1 v2 : Int} (w : W) (a1 : 0 ≤ v1) (b1 : v1 < 6) (a2 : 0 ≤ v2) (b2 : v2 < 3) : g2__law_fans_go [.fr .st, .fr (.int v1), .fr (.int (1 + v2)), .no, .no, .no, .no, .no, .no, .no, .no] w = some (.rt (.bl true) w) := by
  rcases small6 a1 b1 with rfl | rfl | rfl | rfl | rfl | rfl <;> rcases small3 a2 b2 with rfl | rfl | rfl
  · exact fan_0_0 w
  · exact fan_0_1 w
  · exact fan_0_2 w
  · exact fan_1_0 w
  · exact fan_1_1 w
  · exact fan_1_2 w
  · exact fan_2_0 w
  · exact fan_2_1 w
  · exact fan_2_2 w
  · exact fan_3_0 w
  · exact fan_3_1 w
  · exact fan_3_2 w
  · exact fan_4_0 w
  · exact fan_4_1 w
  · exact fan_4_2 w
  · exact fan_5_0 w
  · exact fan_5_1 w
  · exact fan_5_2 w
theorem fans_ok (w : W) : ∃ w', fv__law_fans_go [.fr .st] w = some (.bl true, w') := by
  obtain ⟨v1, v2, w1, a1, b1, a2, b2, e⟩ := draw_fans w
  exact ⟨w1, fv_of_split e (fan_rest w1 a1 b1 a2 b2)⟩
/-- a call of one of them, within the loop -/
theorem go_call {f : Fv} {x : SV} {w w' : W} (h : f [.fr .st] w = some (.bl true, w')) : evNot (evT (evCall 1 f [] (agCons (evVar 1) (agNil)))) [.no, .fr .st, x] w = some (false, [.no, .fr .st, x], w') := by
  have e : evCall 1 f [] (agCons (evVar 1) (agNil)) [.no, .fr .st, x] w = some (.bl true, [.no, .fr .st, x], w') := by
    show (match f [.fr .st] w with
      | some (d, w) => some (d, ([.no, .fr .st, x] : Env), w)
      | none => none) = _
    rw [h]
  unfold evNot evT
  rw [e]
  rfl
def bodyL : TSv := stIf (evOr (evNot (evT (evCall 1 fv__law_ratios_go [] (agCons (evVar 1) agNil)))) (evOr (evNot (evT (evCall 1 fv__law_cones_go [] (agCons (evVar 1) agNil)))) (evNot (evT (evCall 1 fv__law_fans_go [] (agCons (evVar 1) agNil)))))) (stRet (evC (.bl false))) stSkip
theorem body_ok (x : SV) (w : W) : ∃ w', bodyL [.no, .fr .st, x] w = some (.nx [.no, .fr .st, x] w') := by
  obtain ⟨w1, h1⟩ := ratios_ok w
  obtain ⟨w2, h2⟩ := cones_ok w1
  obtain ⟨w3, h3⟩ := fans_ok w2
  refine ⟨w3, ?_⟩
  unfold bodyL stIf evOr
  rw [go_call h1]
  simp only [go_call h2, go_call h3]
  rfl
theorem loop_ok : ∀ (l : List D) (x : SV) (w : W), ∃ y w', forL (tgName 2) bodyL l [.no, .fr .st, x] w = some (.nx [.no, .fr .st, y] w')
  | [], x, w => ⟨x, w, rfl⟩
  | d :: l, x, w => by
    obtain ⟨w1, h1⟩ := body_ok (.fr d) w
    obtain ⟨y, w2, h2⟩ := loop_ok l (.fr d) w1
    refine ⟨y, w2, ?_⟩
    show (match bodyL [.no, .fr .st, .fr d] w with
      | some (.nx env w) => forL (tgName 2) bodyL l env w
      | some (.ct env w) => forL (tgName 2) bodyL l env w
      | some (.bk env w) => some (.nx env w)
      | r => r) = _
    rw [h1]
    exact h2
theorem law_ok (w : W) : ∃ w', g_law [.no, .fr .st, .no] w = some (.rt (.bl true) w') := by
  obtain ⟨y, w1, h⟩ := loop_ok (upto 0 4) .no w
  refine ⟨w1, ?_⟩
  have h2 : stFor (itR1 (evCons (evC (.int 4)) evNil)) (tgName 2) bodyL [.no, .fr .st, .no] w = some (.nx [.no, .fr .st, y] w1) := h
  show stSeq (stFor (itR1 (evCons (evC (.int 4)) evNil)) (tgName 2) bodyL) (stRet (evC (.bl true))) [.no, .fr .st, .no] w = _
  rw [stSeq, h2]
  rfl
end Ev

set_option maxHeartbeats 4000000
namespace Ev
open PySem L2 PySem.Spec PyProof.Rows
theorem kit_no {K : PySem.W.Frag} {C : Addr} {t : String} (hd : PySem.W.hasDictIn K C = true) (tt : PySem.W.typeIn K (.ref C) = some (.type "type")) (u : PySem.W.subIn K (.type t) (.ref C) = some false) : PySem.W.kitOne K (.type t) (.ref C) = some false := by
  obtain ⟨cd, hc, _⟩ := PySem.W.any_some hd
  have e : (Value.type t == Value.ref C) = false := by simp [BEq.beq]
  unfold PySem.W.kitOne
  rw [e, if_neg Bool.false_ne_true]
  simp only [PySem.W.kitCls]
  rw [hc, tt, if_pos (by rfl)]
  exact u
theorem kit_self {K : PySem.W.Frag} {C : Addr} : PySem.W.kitOne K (.ref C) (.ref C) = some true := by
  unfold PySem.W.kitOne
  rw [if_pos (by simp)]
theorem fld_pre (c j : Nat) (f : Str) (h : ((fN c).take j).all (fun x => decide (x ≠ f)) = true) : ∀ i, i < j → (fN c)[i]? ≠ some f := fun i hi e => by
  have h1 : ((fN c).take j)[i]? = some f := by rw [List.getElem?_take_of_lt hi]; exact e
  have h2 := List.all_eq_true.mp h f (List.mem_of_getElem? h1)
  exact absurd rfl (of_decide_eq_true h2)
theorem fnOk_of : True := trivial
structure FnAt (K : PySem.W.Frag) (x qual : Str) (st : Stmt) (f : Addr) : Prop where
  ex : ∃ (oc : Value) (od : Option Addr) (kV doc pm : Value) (an : Option Addr) (cdv ct : Value) (osl : Array (Option Value)),
    K.lookup f = some ⟨oc, od, .func (PySem.W.fnOf x qual (defArgs st) (defBody st) (defScope st) .none kV doc pm an cdv ct), osl⟩ ∧ PySem.W.codeIn K cdv qual = true ∧ PySem.W.keepIn K (.ref f) = true
structure FnAtD (K : PySem.W.Frag) (x qual : Str) (st : Stmt) (f : Addr) : Prop where
  ex : ∃ (oc : Value) (od : Option Addr) (T : Addr) (kV doc pm : Value) (an : Option Addr) (cdv ct : Value) (osl : Array (Option Value)) (o : Obj) (tk : Tok) (n : Nat),
    K.lookup f = some ⟨oc, od, .func (PySem.W.fnOf x qual (defArgs st) (defBody st) (defScope st) (.ref T) kV doc pm an cdv ct), osl⟩ ∧ PySem.W.codeIn K cdv qual = true ∧ PySem.W.keepIn K (.ref f) = true ∧ K.lookup T = some o ∧ o.data = .seq #[.int 1 tk] n
section
variable {K : PySem.W.Frag} {mg : Str → Option Value} {x qual : Str} {st : Stmt} {f : Addr}
theorem fnAt {oc : Value} {od : Option Addr} {kV doc pm : Value} {an : Option Addr} {cdv ct : Value} {osl : Array (Option Value)}
    (l : K.lookup f = some ⟨oc, od, .func (PySem.W.fnOf x qual (defArgs st) (defBody st) (defScope st) .none kV doc pm an cdv ct), osl⟩) (c : PySem.W.codeIn K cdv qual = true) (k : PySem.W.keepIn K (.ref f) = true) : FnAt K x qual st f := ⟨_, _, _, _, _, _, _, _, _, l, c, k⟩
theorem fnAtD {oc : Value} {od : Option Addr} {T : Addr} {kV doc pm : Value} {an : Option Addr} {cdv ct : Value} {osl : Array (Option Value)} {o : Obj} {tk : Tok} {n : Nat}
    (l : K.lookup f = some ⟨oc, od, .func (PySem.W.fnOf x qual (defArgs st) (defBody st) (defScope st) (.ref T) kV doc pm an cdv ct), osl⟩) (c : PySem.W.codeIn K cdv qual = true) (k : PySem.W.keepIn K (.ref f) = true) (lt : K.lookup T = some o) (hd : o.data = .seq #[.int 1 tk] n) : FnAtD K x qual st f := ⟨_, _, _, _, _, _, _, _, _, _, _, _, _, l, c, k, lt, hd⟩
/-- how its arguments bind -/
def BindH (x qual : Str) (st : Stmt) (ps : List Str) : Prop := ∀ (kV doc pm : Value) (an : Option Addr) (cdv ct : Value) (us : List Value), us.length = ps.length → bindArgs (PySem.W.fnOf x qual (defArgs st) (defBody st) (defScope st) .none kV doc pm an cdv ct) ⟨us, []⟩ = pure (ps.zip us)
theorem FnAt.fn (h : FnAt K x qual st f) {ps : List Str} (hb : BindH x qual st ps) : ∃ fd, L2.Fun K x qual st f fd ∧ Binds K fd ps [] := by
  obtain ⟨oc, od, kV, doc, pm, an, cdv, ct, osl, l, c, k⟩ := h.ex
  have F := fun_mk (st := st) l c k
  exact ⟨_, F, F.binds hb⟩
theorem FnAt.fnD (h : FnAt K x qual st f) {ps : List Str} (hb : BindH x qual st ps) : ∃ fd, FunD K x qual (defArgs st) (defBody st) (defScope st) [] [] f fd ∧ Binds K fd ps [] := by
  obtain ⟨oc, od, kV, doc, pm, an, cdv, ct, osl, l, c, k⟩ := h.ex
  have F : FunD K x qual (defArgs st) (defBody st) (defScope st) [] [] f _ := ⟨⟨oc, od, .none, kV, doc, pm, an, cdv, ct, osl, rfl, l, c, .inl ⟨rfl, rfl⟩, .inl rfl⟩, k⟩
  exact ⟨_, F, F.bindsN hb⟩
theorem def_mk (a : mg x = some (.ref f)) (h : FnAt K x x st f) {ps : List Str} (hb : BindH x x st ps) : DefE K mg x st ps := by
  obtain ⟨fd, F, b⟩ := h.fn hb
  exact ⟨f, fd, F, a, b⟩
end
theorem all_mk {l : PySem.W.OpenLaw} {w : World} {K : PySem.W.Frag} {h : Heap} {mg : Str → Option Value} {fa : Addr} {f_is_integer f_check_from f_common f_picks f_is_vector f_check_vector f_is_null f_dot f_scaled f_common_item f_primitive f_least_at f_normal_form f_whole_rank f_eliminated f_null_rows f_across f_side_rows f_is_edge f_edges_of f_crossing_rays f_is_places f_made_cone f_are_face f_check_meeting f_projective f_round_fan f_ruled f__law_take f__law_says f__law_asked f__law_ratios_go f__law_cones_go f__law_fans_go f_law_state f_law C0 i0 e0 C1 i1 e1 C2 i2 e2 : Addr} {t_MOST_CONES t_MOST_ITEM t_MOST_MAKERS : Tok}
    (X : K.In h) (G : h.Ns mainGlobals mg) (hfa : mg "law" = some (.ref fa))
    (a_is_integer : PySem.W.nsIn K mainGlobals "is_integer" = some (some (.ref f_is_integer)))
    (h_is_integer : FnAt K "is_integer" "is_integer" s_is_integer f_is_integer)
    (a_check_from : PySem.W.nsIn K mainGlobals "check_from" = some (some (.ref f_check_from)))
    (h_check_from : FnAt K "check_from" "check_from" s_check_from f_check_from)
    (a_common : PySem.W.nsIn K mainGlobals "common" = some (some (.ref f_common)))
    (h_common : FnAt K "common" "common" s_common f_common)
    (a_picks : PySem.W.nsIn K mainGlobals "picks" = some (some (.ref f_picks)))
    (h_picks : FnAt K "picks" "picks" s_picks f_picks)
    (a_is_vector : PySem.W.nsIn K mainGlobals "is_vector" = some (some (.ref f_is_vector)))
    (h_is_vector : FnAt K "is_vector" "is_vector" s_is_vector f_is_vector)
    (a_check_vector : PySem.W.nsIn K mainGlobals "check_vector" = some (some (.ref f_check_vector)))
    (h_check_vector : FnAt K "check_vector" "check_vector" s_check_vector f_check_vector)
    (a_is_null : PySem.W.nsIn K mainGlobals "is_null" = some (some (.ref f_is_null)))
    (h_is_null : FnAt K "is_null" "is_null" s_is_null f_is_null)
    (a_dot : PySem.W.nsIn K mainGlobals "dot" = some (some (.ref f_dot)))
    (h_dot : FnAt K "dot" "dot" s_dot f_dot)
    (a_scaled : PySem.W.nsIn K mainGlobals "scaled" = some (some (.ref f_scaled)))
    (h_scaled : FnAt K "scaled" "scaled" s_scaled f_scaled)
    (a_common_item : PySem.W.nsIn K mainGlobals "common_item" = some (some (.ref f_common_item)))
    (h_common_item : FnAt K "common_item" "common_item" s_common_item f_common_item)
    (a_primitive : PySem.W.nsIn K mainGlobals "primitive" = some (some (.ref f_primitive)))
    (h_primitive : FnAt K "primitive" "primitive" s_primitive f_primitive)
    (a_least_at : PySem.W.nsIn K mainGlobals "least_at" = some (some (.ref f_least_at)))
    (h_least_at : FnAt K "least_at" "least_at" s_least_at f_least_at)
    (a_normal_form : PySem.W.nsIn K mainGlobals "normal_form" = some (some (.ref f_normal_form)))
    (h_normal_form : FnAt K "normal_form" "normal_form" s_normal_form f_normal_form)
    (a_whole_rank : PySem.W.nsIn K mainGlobals "whole_rank" = some (some (.ref f_whole_rank)))
    (h_whole_rank : FnAt K "whole_rank" "whole_rank" s_whole_rank f_whole_rank)
    (a_eliminated : PySem.W.nsIn K mainGlobals "eliminated" = some (some (.ref f_eliminated)))
    (h_eliminated : FnAt K "eliminated" "eliminated" s_eliminated f_eliminated)
    (a_null_rows : PySem.W.nsIn K mainGlobals "null_rows" = some (some (.ref f_null_rows)))
    (h_null_rows : FnAt K "null_rows" "null_rows" s_null_rows f_null_rows)
    (a_across : PySem.W.nsIn K mainGlobals "across" = some (some (.ref f_across)))
    (h_across : FnAt K "across" "across" s_across f_across)
    (a_side_rows : PySem.W.nsIn K mainGlobals "side_rows" = some (some (.ref f_side_rows)))
    (h_side_rows : FnAt K "side_rows" "side_rows" s_side_rows f_side_rows)
    (a_is_edge : PySem.W.nsIn K mainGlobals "is_edge" = some (some (.ref f_is_edge)))
    (h_is_edge : FnAt K "is_edge" "is_edge" s_is_edge f_is_edge)
    (a_edges_of : PySem.W.nsIn K mainGlobals "edges_of" = some (some (.ref f_edges_of)))
    (h_edges_of : FnAt K "edges_of" "edges_of" s_edges_of f_edges_of)
    (a_crossing_rays : PySem.W.nsIn K mainGlobals "crossing_rays" = some (some (.ref f_crossing_rays)))
    (h_crossing_rays : FnAt K "crossing_rays" "crossing_rays" s_crossing_rays f_crossing_rays)
    (a_is_places : PySem.W.nsIn K mainGlobals "is_places" = some (some (.ref f_is_places)))
    (h_is_places : FnAt K "is_places" "is_places" s_is_places f_is_places)
    (a_made_cone : PySem.W.nsIn K mainGlobals "made_cone" = some (some (.ref f_made_cone)))
    (h_made_cone : FnAt K "made_cone" "made_cone" s_made_cone f_made_cone)
    (a_are_face : PySem.W.nsIn K mainGlobals "are_face" = some (some (.ref f_are_face)))
    (h_are_face : FnAt K "are_face" "are_face" s_are_face f_are_face)
    (a_check_meeting : PySem.W.nsIn K mainGlobals "check_meeting" = some (some (.ref f_check_meeting)))
    (h_check_meeting : FnAt K "check_meeting" "check_meeting" s_check_meeting f_check_meeting)
    (a_projective : PySem.W.nsIn K mainGlobals "projective" = some (some (.ref f_projective)))
    (h_projective : FnAt K "projective" "projective" s_projective f_projective)
    (a_round_fan : PySem.W.nsIn K mainGlobals "round_fan" = some (some (.ref f_round_fan)))
    (h_round_fan : FnAt K "round_fan" "round_fan" s_round_fan f_round_fan)
    (a_ruled : PySem.W.nsIn K mainGlobals "ruled" = some (some (.ref f_ruled)))
    (h_ruled : FnAt K "ruled" "ruled" s_ruled f_ruled)
    (a__law_take : PySem.W.nsIn K mainGlobals "_law_take" = some (some (.ref f__law_take)))
    (h__law_take : FnAt K "_law_take" "_law_take" s__law_take f__law_take)
    (a__law_says : PySem.W.nsIn K mainGlobals "_law_says" = some (some (.ref f__law_says)))
    (h__law_says : FnAt K "_law_says" "_law_says" s__law_says f__law_says)
    (a__law_asked : PySem.W.nsIn K mainGlobals "_law_asked" = some (some (.ref f__law_asked)))
    (h__law_asked : FnAt K "_law_asked" "_law_asked" s__law_asked f__law_asked)
    (a__law_ratios_go : PySem.W.nsIn K mainGlobals "_law_ratios_go" = some (some (.ref f__law_ratios_go)))
    (h__law_ratios_go : FnAt K "_law_ratios_go" "_law_ratios_go" s__law_ratios_go f__law_ratios_go)
    (a__law_cones_go : PySem.W.nsIn K mainGlobals "_law_cones_go" = some (some (.ref f__law_cones_go)))
    (h__law_cones_go : FnAt K "_law_cones_go" "_law_cones_go" s__law_cones_go f__law_cones_go)
    (a__law_fans_go : PySem.W.nsIn K mainGlobals "_law_fans_go" = some (some (.ref f__law_fans_go)))
    (h__law_fans_go : FnAt K "_law_fans_go" "_law_fans_go" s__law_fans_go f__law_fans_go)
    (a_law_state : PySem.W.nsIn K mainGlobals "_law_state" = some (some (.ref f_law_state)))
    (h_law_state : FnAt K "_law_state" "_law_state" s_state f_law_state)
    (a_law : PySem.W.nsIn K mainGlobals "law" = some (some (.ref f_law)))
    (h_law : FnAt K "law" "law" s_law f_law)
    (aC0 : PySem.W.nsIn K mainGlobals "Ratio" = some (some (.ref C0)))
    (pg0 : PySem.W.plainGet K C0 Str.empty = true)
    (hd0 : PySem.W.hasDictIn K C0 = true)
    (po0 : PySem.W.plainOver K C0 = true)
    (sa0 : PySem.W.findIn K (.ref C0) "__setattr__" = some (some (.builtin "object.__setattr__")))
    (ka0 : PySem.W.findIn K (.ref C0) "__class__" = some (some (.builtin "object.__class__")))
    (kn0 : PySem.W.specialIn K (.builtin "object.__class__") "__get__" = some (some (.builtin "getset_descriptor.__get__")))
    (kt0 : PySem.W.takesIn K (.builtin "object.__class__") = some true)
    (km0 : PySem.W.mroIn K C0 (.type "object") = some true)
    (tt0 : PySem.W.typeIn K (.ref C0) = some (.type "type"))
    (k00 : PySem.W.subIn K (.type "NoneType") (.ref C0) = some false)
    (k20 : PySem.W.subIn K (.type "int") (.ref C0) = some false)
    (k30 : PySem.W.subIn K (.type "str") (.ref C0) = some false)
    (k40 : PySem.W.subIn K (.type "tuple") (.ref C0) = some false)
    (mk0 : PySem.W.makesIn K C0 = true)
    (kc0 : PySem.W.keepIn K (.ref C0) = true)
    (ai0 : PySem.W.findIn K (.ref C0) "__init__" = some (some (.ref i0)))
    (ii0 : PySem.W.isFn K (.ref i0) = true)
    (ae0 : PySem.W.findIn K (.ref C0) "__eq__" = some (some (.ref e0)))
    (ie0 : PySem.W.isFn K (.ref e0) = true)
    (s00 : PySem.W.subIn K (.ref C0) (.type "NoneType") = some false)
    (s20 : PySem.W.subIn K (.ref C0) (.type "int") = some false)
    (s30 : PySem.W.subIn K (.ref C0) (.type "str") = some false)
    (s40 : PySem.W.subIn K (.ref C0) (.type "tuple") = some false)
    (n0_n : PySem.W.findIn K (.ref C0) "n" = some none)
    (n0_d : PySem.W.findIn K (.ref C0) "d" = some none)
    (hi0 : FnAtD K "__init__" "Ratio.__init__" s_Ratio___init__ i0)
    (he0 : FnAt K "__eq__" "Ratio.__eq__" s_Ratio___eq__ e0)
    (aC1 : PySem.W.nsIn K mainGlobals "Cone" = some (some (.ref C1)))
    (pg1 : PySem.W.plainGet K C1 Str.empty = true)
    (hd1 : PySem.W.hasDictIn K C1 = true)
    (po1 : PySem.W.plainOver K C1 = true)
    (sa1 : PySem.W.findIn K (.ref C1) "__setattr__" = some (some (.builtin "object.__setattr__")))
    (ka1 : PySem.W.findIn K (.ref C1) "__class__" = some (some (.builtin "object.__class__")))
    (kn1 : PySem.W.specialIn K (.builtin "object.__class__") "__get__" = some (some (.builtin "getset_descriptor.__get__")))
    (kt1 : PySem.W.takesIn K (.builtin "object.__class__") = some true)
    (km1 : PySem.W.mroIn K C1 (.type "object") = some true)
    (tt1 : PySem.W.typeIn K (.ref C1) = some (.type "type"))
    (k01 : PySem.W.subIn K (.type "NoneType") (.ref C1) = some false)
    (k21 : PySem.W.subIn K (.type "int") (.ref C1) = some false)
    (k31 : PySem.W.subIn K (.type "str") (.ref C1) = some false)
    (k41 : PySem.W.subIn K (.type "tuple") (.ref C1) = some false)
    (mk1 : PySem.W.makesIn K C1 = true)
    (kc1 : PySem.W.keepIn K (.ref C1) = true)
    (ai1 : PySem.W.findIn K (.ref C1) "__init__" = some (some (.ref i1)))
    (ii1 : PySem.W.isFn K (.ref i1) = true)
    (ae1 : PySem.W.findIn K (.ref C1) "__eq__" = some (some (.ref e1)))
    (ie1 : PySem.W.isFn K (.ref e1) = true)
    (s01 : PySem.W.subIn K (.ref C1) (.type "NoneType") = some false)
    (s21 : PySem.W.subIn K (.ref C1) (.type "int") = some false)
    (s31 : PySem.W.subIn K (.ref C1) (.type "str") = some false)
    (s41 : PySem.W.subIn K (.ref C1) (.type "tuple") = some false)
    (n1_n : PySem.W.findIn K (.ref C1) "n" = some none)
    (n1_zeros : PySem.W.findIn K (.ref C1) "zeros" = some none)
    (n1_dim : PySem.W.findIn K (.ref C1) "dim" = some none)
    (n1_sides : PySem.W.findIn K (.ref C1) "sides" = some none)
    (n1_rays : PySem.W.findIn K (.ref C1) "rays" = some none)
    (hi1 : FnAt K "__init__" "Cone.__init__" s_Cone___init__ i1)
    (he1 : FnAt K "__eq__" "Cone.__eq__" s_Cone___eq__ e1)
    (aC2 : PySem.W.nsIn K mainGlobals "Fan" = some (some (.ref C2)))
    (pg2 : PySem.W.plainGet K C2 Str.empty = true)
    (hd2 : PySem.W.hasDictIn K C2 = true)
    (po2 : PySem.W.plainOver K C2 = true)
    (sa2 : PySem.W.findIn K (.ref C2) "__setattr__" = some (some (.builtin "object.__setattr__")))
    (ka2 : PySem.W.findIn K (.ref C2) "__class__" = some (some (.builtin "object.__class__")))
    (kn2 : PySem.W.specialIn K (.builtin "object.__class__") "__get__" = some (some (.builtin "getset_descriptor.__get__")))
    (kt2 : PySem.W.takesIn K (.builtin "object.__class__") = some true)
    (km2 : PySem.W.mroIn K C2 (.type "object") = some true)
    (tt2 : PySem.W.typeIn K (.ref C2) = some (.type "type"))
    (k02 : PySem.W.subIn K (.type "NoneType") (.ref C2) = some false)
    (k22 : PySem.W.subIn K (.type "int") (.ref C2) = some false)
    (k32 : PySem.W.subIn K (.type "str") (.ref C2) = some false)
    (k42 : PySem.W.subIn K (.type "tuple") (.ref C2) = some false)
    (mk2 : PySem.W.makesIn K C2 = true)
    (kc2 : PySem.W.keepIn K (.ref C2) = true)
    (ai2 : PySem.W.findIn K (.ref C2) "__init__" = some (some (.ref i2)))
    (ii2 : PySem.W.isFn K (.ref i2) = true)
    (ae2 : PySem.W.findIn K (.ref C2) "__eq__" = some (some (.ref e2)))
    (ie2 : PySem.W.isFn K (.ref e2) = true)
    (s02 : PySem.W.subIn K (.ref C2) (.type "NoneType") = some false)
    (s22 : PySem.W.subIn K (.ref C2) (.type "int") = some false)
    (s32 : PySem.W.subIn K (.ref C2) (.type "str") = some false)
    (s42 : PySem.W.subIn K (.ref C2) (.type "tuple") = some false)
    (n2_n : PySem.W.findIn K (.ref C2) "n" = some none)
    (n2_rays : PySem.W.findIn K (.ref C2) "rays" = some none)
    (n2_cones : PySem.W.findIn K (.ref C2) "cones" = some none)
    (n2_parts : PySem.W.findIn K (.ref C2) "parts" = some none)
    (hi2 : FnAt K "__init__" "Fan.__init__" s_Fan___init__ i2)
    (he2 : FnAt K "__eq__" "Fan.__eq__" s_Fan___eq__ e2)
    (b_abs : PySem.W.nsIn K mainGlobals "abs" = some none)
    (b_all : PySem.W.nsIn K mainGlobals "all" = some none)
    (b_any : PySem.W.nsIn K mainGlobals "any" = some none)
    (b_bool : PySem.W.nsIn K mainGlobals "bool" = some none)
    (b_enumerate : PySem.W.nsIn K mainGlobals "enumerate" = some none)
    (b_int : PySem.W.nsIn K mainGlobals "int" = some none)
    (b_isinstance : PySem.W.nsIn K mainGlobals "isinstance" = some none)
    (b_len : PySem.W.nsIn K mainGlobals "len" = some none)
    (b_list : PySem.W.nsIn K mainGlobals "list" = some none)
    (b_range : PySem.W.nsIn K mainGlobals "range" = some none)
    (b_set : PySem.W.nsIn K mainGlobals "set" = some none)
    (b_sorted : PySem.W.nsIn K mainGlobals "sorted" = some none)
    (b_sum : PySem.W.nsIn K mainGlobals "sum" = some none)
    (b_tuple : PySem.W.nsIn K mainGlobals "tuple" = some none)
    (b_zip : PySem.W.nsIn K mainGlobals "zip" = some none)
    (k_MOST_CONES : PySem.W.nsIn K mainGlobals "MOST_CONES" = some (some (.int 60 t_MOST_CONES)))
    (k_MOST_ITEM : PySem.W.nsIn K mainGlobals "MOST_ITEM" = some (some (.int 100000 t_MOST_ITEM)))
    (k_MOST_MAKERS : PySem.W.nsIn K mainGlobals "MOST_MAKERS" = some (some (.int 14 t_MOST_MAKERS)))
    : ∃ fd : FuncData, (∀ (s : Shared) (v : Value), BindsTo s fd ⟨[v], []⟩ [("script", v)]) ∧ ∀ base : Heap, K.In base → base.Ns mainGlobals mg → FnOk l.prog w K mg base CX0 15 fa fd ["script"] (spLaw K) := by
  have e := hfa.symm.trans (PySem.W.mg_of X G a_law)
  cases e
  let cA : Nat → Addr := fun c => match c with
    | 0 => C0
    | 1 => C1
    | _ => C2
  have cls0 : Cls K C0 := ⟨pg0, hd0, po0, sa0⟩
  have ty0 : TyOk K C0 := ⟨cls0, ka0, kn0, kt0, km0, kit_no hd0 tt0 k00, kit_no hd0 tt0 k20, kit_no hd0 tt0 k30, kit_no hd0 tt0 k40, kit_self⟩
  have cls1 : Cls K C1 := ⟨pg1, hd1, po1, sa1⟩
  have ty1 : TyOk K C1 := ⟨cls1, ka1, kn1, kt1, km1, kit_no hd1 tt1 k01, kit_no hd1 tt1 k21, kit_no hd1 tt1 k31, kit_no hd1 tt1 k41, kit_self⟩
  have cls2 : Cls K C2 := ⟨pg2, hd2, po2, sa2⟩
  have ty2 : TyOk K C2 := ⟨cls2, ka2, kn2, kt2, km2, kit_no hd2 tt2 k02, kit_no hd2 tt2 k22, kit_no hd2 tt2 k32, kit_no hd2 tt2 k42, kit_self⟩
  have tys : TysOk K cA := ⟨ty0, ty1, ty2⟩
  have fo0_0 : FldOk K cA 0 0 "n" := ⟨cls0, n0_n, rfl, fld_pre 0 0 "n" (by decide)⟩
  have fo0_1 : FldOk K cA 0 1 "d" := ⟨cls0, n0_d, rfl, fld_pre 0 1 "d" (by decide)⟩
  have fo1_0 : FldOk K cA 1 0 "n" := ⟨cls1, n1_n, rfl, fld_pre 1 0 "n" (by decide)⟩
  have fo1_1 : FldOk K cA 1 1 "zeros" := ⟨cls1, n1_zeros, rfl, fld_pre 1 1 "zeros" (by decide)⟩
  have fo1_2 : FldOk K cA 1 2 "dim" := ⟨cls1, n1_dim, rfl, fld_pre 1 2 "dim" (by decide)⟩
  have fo1_3 : FldOk K cA 1 3 "sides" := ⟨cls1, n1_sides, rfl, fld_pre 1 3 "sides" (by decide)⟩
  have fo1_4 : FldOk K cA 1 4 "rays" := ⟨cls1, n1_rays, rfl, fld_pre 1 4 "rays" (by decide)⟩
  have fo2_0 : FldOk K cA 2 0 "n" := ⟨cls2, n2_n, rfl, fld_pre 2 0 "n" (by decide)⟩
  have fo2_1 : FldOk K cA 2 1 "rays" := ⟨cls2, n2_rays, rfl, fld_pre 2 1 "rays" (by decide)⟩
  have fo2_2 : FldOk K cA 2 2 "cones" := ⟨cls2, n2_cones, rfl, fld_pre 2 2 "cones" (by decide)⟩
  have fo2_3 : FldOk K cA 2 3 "parts" := ⟨cls2, n2_parts, rfl, fld_pre 2 3 "parts" (by decide)⟩
  have T : Txt K mg cA := { b_abs := PySem.W.mg_none_of X G b_abs, b_all := PySem.W.mg_none_of X G b_all, b_any := PySem.W.mg_none_of X G b_any, b_bool := PySem.W.mg_none_of X G b_bool, b_enumerate := PySem.W.mg_none_of X G b_enumerate, b_int := PySem.W.mg_none_of X G b_int, b_isinstance := PySem.W.mg_none_of X G b_isinstance, b_len := PySem.W.mg_none_of X G b_len, b_list := PySem.W.mg_none_of X G b_list, b_range := PySem.W.mg_none_of X G b_range, b_set := PySem.W.mg_none_of X G b_set, b_sorted := PySem.W.mg_none_of X G b_sorted, b_sum := PySem.W.mg_none_of X G b_sum, b_tuple := PySem.W.mg_none_of X G b_tuple, b_zip := PySem.W.mg_none_of X G b_zip, k_MOST_CONES := ⟨_, .int 60, PySem.W.mg_of X G k_MOST_CONES, ⟨_, rfl⟩, fun _ _ => rfl⟩, k_MOST_ITEM := ⟨_, .int 100000, PySem.W.mg_of X G k_MOST_ITEM, ⟨_, rfl⟩, fun _ _ => rfl⟩, k_MOST_MAKERS := ⟨_, .int 14, PySem.W.mg_of X G k_MOST_MAKERS, ⟨_, rfl⟩, fun _ _ => rfl⟩, m_Ratio := PySem.W.mg_of X G aC0, m_Cone := PySem.W.mg_of X G aC1, m_Fan := PySem.W.mg_of X G aC2, f_0_0 := fo0_0, f_0_1 := fo0_1, f_1_0 := fo1_0, f_1_1 := fo1_1, f_1_2 := fo1_2, f_1_3 := fo1_3, f_1_4 := fo1_4, f_2_0 := fo2_0, f_2_1 := fo2_1, f_2_2 := fo2_2, f_2_3 := fo2_3, tys := tys }
  have D_is_integer : DefE K mg "is_integer" s_is_integer ps_is_integer := def_mk (PySem.W.mg_of X G a_is_integer) h_is_integer (fun _ _ _ _ _ _ us hl => match us, hl with | [_], _ => rfl)
  have D_check_from : DefE K mg "check_from" s_check_from ps_check_from := def_mk (PySem.W.mg_of X G a_check_from) h_check_from (fun _ _ _ _ _ _ us hl => match us, hl with | [_, _, _], _ => rfl)
  have D_common : DefE K mg "common" s_common ps_common := def_mk (PySem.W.mg_of X G a_common) h_common (fun _ _ _ _ _ _ us hl => match us, hl with | [_, _], _ => rfl)
  have D_picks : DefE K mg "picks" s_picks ps_picks := def_mk (PySem.W.mg_of X G a_picks) h_picks (fun _ _ _ _ _ _ us hl => match us, hl with | [_, _], _ => rfl)
  have D_is_vector : DefE K mg "is_vector" s_is_vector ps_is_vector := def_mk (PySem.W.mg_of X G a_is_vector) h_is_vector (fun _ _ _ _ _ _ us hl => match us, hl with | [_, _], _ => rfl)
  have D_check_vector : DefE K mg "check_vector" s_check_vector ps_check_vector := def_mk (PySem.W.mg_of X G a_check_vector) h_check_vector (fun _ _ _ _ _ _ us hl => match us, hl with | [_, _], _ => rfl)
  have D_is_null : DefE K mg "is_null" s_is_null ps_is_null := def_mk (PySem.W.mg_of X G a_is_null) h_is_null (fun _ _ _ _ _ _ us hl => match us, hl with | [_], _ => rfl)
  have D_dot : DefE K mg "dot" s_dot ps_dot := def_mk (PySem.W.mg_of X G a_dot) h_dot (fun _ _ _ _ _ _ us hl => match us, hl with | [_, _], _ => rfl)
  have D_scaled : DefE K mg "scaled" s_scaled ps_scaled := def_mk (PySem.W.mg_of X G a_scaled) h_scaled (fun _ _ _ _ _ _ us hl => match us, hl with | [_, _], _ => rfl)
  have D_common_item : DefE K mg "common_item" s_common_item ps_common_item := def_mk (PySem.W.mg_of X G a_common_item) h_common_item (fun _ _ _ _ _ _ us hl => match us, hl with | [_], _ => rfl)
  have D_primitive : DefE K mg "primitive" s_primitive ps_primitive := def_mk (PySem.W.mg_of X G a_primitive) h_primitive (fun _ _ _ _ _ _ us hl => match us, hl with | [_], _ => rfl)
  have D_least_at : DefE K mg "least_at" s_least_at ps_least_at := def_mk (PySem.W.mg_of X G a_least_at) h_least_at (fun _ _ _ _ _ _ us hl => match us, hl with | [_, _], _ => rfl)
  have D_normal_form : DefE K mg "normal_form" s_normal_form ps_normal_form := def_mk (PySem.W.mg_of X G a_normal_form) h_normal_form (fun _ _ _ _ _ _ us hl => match us, hl with | [_, _], _ => rfl)
  have D_whole_rank : DefE K mg "whole_rank" s_whole_rank ps_whole_rank := def_mk (PySem.W.mg_of X G a_whole_rank) h_whole_rank (fun _ _ _ _ _ _ us hl => match us, hl with | [_, _], _ => rfl)
  have D_eliminated : DefE K mg "eliminated" s_eliminated ps_eliminated := def_mk (PySem.W.mg_of X G a_eliminated) h_eliminated (fun _ _ _ _ _ _ us hl => match us, hl with | [_, _], _ => rfl)
  have D_null_rows : DefE K mg "null_rows" s_null_rows ps_null_rows := def_mk (PySem.W.mg_of X G a_null_rows) h_null_rows (fun _ _ _ _ _ _ us hl => match us, hl with | [_, _], _ => rfl)
  have D_across : DefE K mg "across" s_across ps_across := def_mk (PySem.W.mg_of X G a_across) h_across (fun _ _ _ _ _ _ us hl => match us, hl with | [_, _], _ => rfl)
  have D_side_rows : DefE K mg "side_rows" s_side_rows ps_side_rows := def_mk (PySem.W.mg_of X G a_side_rows) h_side_rows (fun _ _ _ _ _ _ us hl => match us, hl with | [_, _, _], _ => rfl)
  have D_is_edge : DefE K mg "is_edge" s_is_edge ps_is_edge := def_mk (PySem.W.mg_of X G a_is_edge) h_is_edge (fun _ _ _ _ _ _ us hl => match us, hl with | [_, _, _, _], _ => rfl)
  have D_edges_of : DefE K mg "edges_of" s_edges_of ps_edges_of := def_mk (PySem.W.mg_of X G a_edges_of) h_edges_of (fun _ _ _ _ _ _ us hl => match us, hl with | [_, _, _], _ => rfl)
  have D_crossing_rays : DefE K mg "crossing_rays" s_crossing_rays ps_crossing_rays := def_mk (PySem.W.mg_of X G a_crossing_rays) h_crossing_rays (fun _ _ _ _ _ _ us hl => match us, hl with | [_, _], _ => rfl)
  have D_is_places : DefE K mg "is_places" s_is_places ps_is_places := def_mk (PySem.W.mg_of X G a_is_places) h_is_places (fun _ _ _ _ _ _ us hl => match us, hl with | [_, _], _ => rfl)
  have D_made_cone : DefE K mg "made_cone" s_made_cone ps_made_cone := def_mk (PySem.W.mg_of X G a_made_cone) h_made_cone (fun _ _ _ _ _ _ us hl => match us, hl with | [_, _, _], _ => rfl)
  have D_are_face : DefE K mg "are_face" s_are_face ps_are_face := def_mk (PySem.W.mg_of X G a_are_face) h_are_face (fun _ _ _ _ _ _ us hl => match us, hl with | [_, _], _ => rfl)
  have D_check_meeting : DefE K mg "check_meeting" s_check_meeting ps_check_meeting := def_mk (PySem.W.mg_of X G a_check_meeting) h_check_meeting (fun _ _ _ _ _ _ us hl => match us, hl with | [_], _ => rfl)
  have D_projective : DefE K mg "projective" s_projective ps_projective := def_mk (PySem.W.mg_of X G a_projective) h_projective (fun _ _ _ _ _ _ us hl => match us, hl with | [_], _ => rfl)
  have D_round_fan : DefE K mg "round_fan" s_round_fan ps_round_fan := def_mk (PySem.W.mg_of X G a_round_fan) h_round_fan (fun _ _ _ _ _ _ us hl => match us, hl with | [_], _ => rfl)
  have D_ruled : DefE K mg "ruled" s_ruled ps_ruled := def_mk (PySem.W.mg_of X G a_ruled) h_ruled (fun _ _ _ _ _ _ us hl => match us, hl with | [_], _ => rfl)
  have D__law_take : DefE K mg "_law_take" s__law_take ps__law_take := def_mk (PySem.W.mg_of X G a__law_take) h__law_take (fun _ _ _ _ _ _ us hl => match us, hl with | [_, _], _ => rfl)
  have D__law_says : DefE K mg "_law_says" s__law_says ps__law_says := def_mk (PySem.W.mg_of X G a__law_says) h__law_says (fun _ _ _ _ _ _ us hl => match us, hl with | [_, _], _ => rfl)
  have D__law_asked : DefE K mg "_law_asked" s__law_asked ps__law_asked := def_mk (PySem.W.mg_of X G a__law_asked) h__law_asked (fun _ _ _ _ _ _ us hl => match us, hl with | [_, _, _], _ => rfl)
  have D__law_ratios_go : DefE K mg "_law_ratios_go" s__law_ratios_go ps__law_ratios_go := def_mk (PySem.W.mg_of X G a__law_ratios_go) h__law_ratios_go (fun _ _ _ _ _ _ us hl => match us, hl with | [_], _ => rfl)
  have D__law_cones_go : DefE K mg "_law_cones_go" s__law_cones_go ps__law_cones_go := def_mk (PySem.W.mg_of X G a__law_cones_go) h__law_cones_go (fun _ _ _ _ _ _ us hl => match us, hl with | [_], _ => rfl)
  have D__law_fans_go : DefE K mg "_law_fans_go" s__law_fans_go ps__law_fans_go := def_mk (PySem.W.mg_of X G a__law_fans_go) h__law_fans_go (fun _ _ _ _ _ _ us hl => match us, hl with | [_], _ => rfl)
  have I_0 : IniE K mg "Ratio" "Ratio.__init__" (cA 0) s_Ratio___init__ ps_Ratio___init__ := by
    obtain ⟨oc, od, T', kV, doc, pm, an, cdv, ct, osl, ob, tk, n, l, c', k', lt, hd⟩ := hi0.ex
    have F : FunD K "__init__" "Ratio.__init__" (defArgs s_Ratio___init__) (defBody s_Ratio___init__) (defScope s_Ratio___init__) [.int 1] [] i0 _ := ⟨⟨oc, od, .ref T', kV, doc, pm, an, cdv, ct, osl, rfl, l, c', .inr ⟨by simp, T', ob, [.int 1 tk], n, rfl, lt, hd, .cons ⟨_, rfl⟩ .nil⟩, .inl rfl⟩, k'⟩
    obtain ⟨ds, rv, b⟩ := F.binds1 (ps := ps_Ratio___init__) 3 1 (by simp) rfl (fun T kV doc pm an cdv ct us its hu hi => match us, hu, its, hi with
      | [_, _, _], _, [_], _ => ⟨_, rfl, rfl⟩)
    have e : ds = [] := by
      cases rv
      rfl
    subst e
    exact ⟨i0, _, _, F, ⟨mk0, ai0, ii0, kc0⟩, PySem.W.mg_of X G aC0, b⟩
  have Q_0 : EqlE K "Ratio.__eq__" (cA 0) s_Ratio___eq__ ps_Ratio___eq__ := by
    obtain ⟨fd, F, b⟩ := he0.fn (ps := ps_Ratio___eq__) (fun _ _ _ _ _ _ us hl => match us, hl with | [_, _], _ => rfl)
    exact ⟨e0, fd, F, ⟨ae0, ie0, s00, s20, s30, s40⟩, b⟩
  have I_1 : IniE K mg "Cone" "Cone.__init__" (cA 1) s_Cone___init__ ps_Cone___init__ := by
    obtain ⟨fd, F, b⟩ := hi1.fnD (ps := ps_Cone___init__) (fun _ _ _ _ _ _ us hl => match us, hl with | [_, _, _], _ => rfl)
    exact ⟨i1, fd, _, F, ⟨mk1, ai1, ii1, kc1⟩, PySem.W.mg_of X G aC1, b⟩
  have Q_1 : EqlE K "Cone.__eq__" (cA 1) s_Cone___eq__ ps_Cone___eq__ := by
    obtain ⟨fd, F, b⟩ := he1.fn (ps := ps_Cone___eq__) (fun _ _ _ _ _ _ us hl => match us, hl with | [_, _], _ => rfl)
    exact ⟨e1, fd, F, ⟨ae1, ie1, s01, s21, s31, s41⟩, b⟩
  have I_2 : IniE K mg "Fan" "Fan.__init__" (cA 2) s_Fan___init__ ps_Fan___init__ := by
    obtain ⟨fd, F, b⟩ := hi2.fnD (ps := ps_Fan___init__) (fun _ _ _ _ _ _ us hl => match us, hl with | [_, _, _, _], _ => rfl)
    exact ⟨i2, fd, _, F, ⟨mk2, ai2, ii2, kc2⟩, PySem.W.mg_of X G aC2, b⟩
  have Q_2 : EqlE K "Fan.__eq__" (cA 2) s_Fan___eq__ ps_Fan___eq__ := by
    obtain ⟨fd, F, b⟩ := he2.fn (ps := ps_Fan___eq__) (fun _ _ _ _ _ _ us hl => match us, hl with | [_, _], _ => rfl)
    exact ⟨e2, fd, F, ⟨ae2, ie2, s02, s22, s32, s42⟩, b⟩
  obtain ⟨fds, Fs, bs⟩ := h_law_state.fn (ps := ["script"]) (fun _ _ _ _ _ _ us hl => match us, hl with | [_], _ => rfl)
  obtain ⟨oc, od, kV, doc, pm, an, cdv, ct, osl, ll, lc, lk⟩ := h_law.ex
  refine ⟨PySem.W.fnOf "law" "law" (defArgs s_law) (defBody s_law) (defScope s_law) .none kV doc pm an cdv ct, fun s v => .of_eq rfl, fun base _ _ => ?_⟩
  have c_is_integer := ok_is_integer (P := l.prog) (w := w) (base := base) T  D_is_integer
  have c_check_from := ok_check_from (P := l.prog) (w := w) (base := base) T c_is_integer D_check_from
  have c_common := ok_common (P := l.prog) (w := w) (base := base) T  D_common
  have c_picks := ok_picks (P := l.prog) (w := w) (base := base) T  D_picks
  have c_is_vector := ok_is_vector (P := l.prog) (w := w) (base := base) T c_is_integer D_is_vector
  have c_check_vector := ok_check_vector (P := l.prog) (w := w) (base := base) T c_is_vector D_check_vector
  have c_is_null := ok_is_null (P := l.prog) (w := w) (base := base) T  D_is_null
  have c_dot := ok_dot (P := l.prog) (w := w) (base := base) T  D_dot
  have c_scaled := ok_scaled (P := l.prog) (w := w) (base := base) T  D_scaled
  have c_common_item := ok_common_item (P := l.prog) (w := w) (base := base) T c_common D_common_item
  have c_primitive := ok_primitive (P := l.prog) (w := w) (base := base) T c_common_item D_primitive
  have c_least_at := ok_least_at (P := l.prog) (w := w) (base := base) T  D_least_at
  have c_normal_form := ok_normal_form (P := l.prog) (w := w) (base := base) T c_least_at D_normal_form
  have c_whole_rank := ok_whole_rank (P := l.prog) (w := w) (base := base) T c_normal_form D_whole_rank
  have c_eliminated := ok_eliminated (P := l.prog) (w := w) (base := base) T c_least_at D_eliminated
  have c_null_rows := ok_null_rows (P := l.prog) (w := w) (base := base) T c_eliminated c_normal_form D_null_rows
  have c_across := ok_across (P := l.prog) (w := w) (base := base) T c_null_rows c_primitive D_across
  have c_side_rows := ok_side_rows (P := l.prog) (w := w) (base := base) T c_picks c_across c_scaled c_dot D_side_rows
  have c_is_edge := ok_is_edge (P := l.prog) (w := w) (base := base) T c_dot c_whole_rank D_is_edge
  have c_Cone___init__ := ok_Cone___init__ (P := l.prog) (w := w) (base := base) T c_check_from c_check_vector c_is_null c_primitive c_null_rows c_side_rows c_whole_rank c_is_edge I_1
  have c_edges_of := ok_edges_of (P := l.prog) (w := w) (base := base) T c_whole_rank c_picks c_across c_scaled c_dot D_edges_of
  have c_crossing_rays := ok_crossing_rays (P := l.prog) (w := w) (base := base) T c_normal_form c_edges_of D_crossing_rays
  have c_is_places := ok_is_places (P := l.prog) (w := w) (base := base) T c_is_integer D_is_places
  have c_made_cone := ok_made_cone (P := l.prog) (w := w) (base := base) T c_Cone___init__ D_made_cone
  have c_are_face := ok_are_face (P := l.prog) (w := w) (base := base) T c_dot D_are_face
  have c_check_meeting := ok_check_meeting (P := l.prog) (w := w) (base := base) T c_crossing_rays c_are_face D_check_meeting
  have c_Fan___init__ := ok_Fan___init__ (P := l.prog) (w := w) (base := base) T c_check_from c_check_vector c_is_null c_primitive c_is_places c_made_cone c_check_meeting I_2
  have c_projective := ok_projective (P := l.prog) (w := w) (base := base) T c_check_from c_Fan___init__ D_projective
  have c_round_fan := ok_round_fan (P := l.prog) (w := w) (base := base) T c_check_vector c_Fan___init__ D_round_fan
  have c_ruled := ok_ruled (P := l.prog) (w := w) (base := base) T c_check_from c_round_fan D_ruled
  have c_Ratio___init__ := ok_Ratio___init__ (P := l.prog) (w := w) (base := base) T c_is_integer c_common I_0
  have q_0 := ok_Ratio___eq__ (P := l.prog) (w := w) (base := base) T  Q_0
  have q_1 := ok_Cone___eq__ (P := l.prog) (w := w) (base := base) T  Q_1
  have q_2 := ok_Fan___eq__ (P := l.prog) (w := w) (base := base) T  Q_2
  have QQ : EqFns l.prog w K mg base cA 2 eqs := ⟨q_0.mono (by decide), q_1.mono (by decide), q_2.mono (by decide)⟩
  have c__law_take := ok__law_take (P := l.prog) (w := w) (base := base) T  D__law_take
  have c__law_says := ok__law_says (P := l.prog) (w := w) (base := base) T  D__law_says
  have c__law_asked := ok__law_asked (P := l.prog) (w := w) (base := base) T c__law_says QQ D__law_asked
  have c__law_ratios_go := ok__law_ratios_go (P := l.prog) (w := w) (base := base) T c__law_take c__law_asked c_Ratio___init__ D__law_ratios_go
  have c__law_cones_go := ok__law_cones_go (P := l.prog) (w := w) (base := base) T c__law_take c__law_asked c_Cone___init__ D__law_cones_go
  have c__law_fans_go := ok__law_fans_go (P := l.prog) (w := w) (base := base) T c__law_take c_ruled c_projective c__law_asked c_Fan___init__ D__law_fans_go
  exact ok_law T law_ok c__law_ratios_go c__law_cones_go c__law_fans_go (fun_mk (st := s_law) ll lc lk) Fs (PySem.W.mg_of X G a_law_state) bs
theorem walk {l : PySem.W.OpenLaw} {q : Program} {loose : List Str} {XP : (Str → Option Value) → Heap → Prop} {YP : World → Heap → Prop} {d : DefRec} {K : Params → PySem.W.Frag} (hn : l.most = some 63) (hdf : d.params.defaults = [])
    (hY : ∀ (w : World) (h : Heap), YP w h → (K w.params).In h)
    (F : ∀ (w : World) (mg : Str → Option Value) (fa : Addr) (h : Heap), (K w.params).In h → h.Ns mainGlobals mg → mg d.name = some (.ref fa) →
      ∃ fd : FuncData, (∀ (s : Shared) (u : Value), BindsTo s fd ⟨[u], []⟩ [("script", u)]) ∧ ∀ base : Heap, (K w.params).In base → base.Ns mainGlobals mg → FnOk l.prog w (K w.params) mg base CX0 15 fa fd ["script"] (spLaw (K w.params))) :
    PySem.W.WalkO q loose XP YP l.row.toRowW d [] (fun f vs => PySem.call f vs) :=
  L2.walk_of (n := 63) (k := 15) (x := "script") (CX := fun _ => CX0) (sp := fun w => spLaw (K w.params)) hn (by decide) hdf ⟨rfl, by decide, by decide⟩ hY F (fun _ _ a ns hl _ hS => ⟨a, ns, rfl, hS, hl, fun _ => rfl⟩) fun _ _ _ _ _ z => z
end Ev

open PySem PySem.W PyProof.Rows in
set_option maxRecDepth 100000 in
set_option maxHeartbeats 0 in
theorem PySem.Challenge.cw_fanroads_k44_whole_what_is_equal_and_wha_holds : PySem.Challenge.rw_fanroads_k44_whole_what_is_equal_and_wha.Holds := by
  w_on; o_law; k_head; (case hw => w_witness2)
  k_fill
  refine Ev.walk (l := PySem.Challenge.rw_fanroads_k44_whole_what_is_equal_and_wha) rfl rfl (fun w h Y => PySem.W.kIn_of Y) ?F
  case F =>
    intro w mg fa h KX G hmg
    refine' Ev.all_mk KX G hmg ?a_is_integer ?h_is_integer ?a_check_from ?h_check_from ?a_common ?h_common ?a_picks ?h_picks ?a_is_vector ?h_is_vector ?a_check_vector ?h_check_vector ?a_is_null ?h_is_null ?a_dot ?h_dot ?a_scaled ?h_scaled ?a_common_item ?h_common_item ?a_primitive ?h_primitive ?a_least_at ?h_least_at ?a_normal_form ?h_normal_form ?a_whole_rank ?h_whole_rank ?a_eliminated ?h_eliminated ?a_null_rows ?h_null_rows ?a_across ?h_across ?a_side_rows ?h_side_rows ?a_is_edge ?h_is_edge ?a_edges_of ?h_edges_of ?a_crossing_rays ?h_crossing_rays ?a_is_places ?h_is_places ?a_made_cone ?h_made_cone ?a_are_face ?h_are_face ?a_check_meeting ?h_check_meeting ?a_projective ?h_projective ?a_round_fan ?h_round_fan ?a_ruled ?h_ruled ?a__law_take ?h__law_take ?a__law_says ?h__law_says ?a__law_asked ?h__law_asked ?a__law_ratios_go ?h__law_ratios_go ?a__law_cones_go ?h__law_cones_go ?a__law_fans_go ?h__law_fans_go ?a_law_state ?h_law_state ?a_law ?h_law ?aC0 ?pg0 ?hd0 ?po0 ?sa0 ?ka0 ?kn0 ?kt0 ?km0 ?tt0 ?k00 ?k20 ?k30 ?k40 ?mk0 ?kc0 ?ai0 ?ii0 ?ae0 ?ie0 ?s00 ?s20 ?s30 ?s40 ?n0_n ?n0_d ?hi0 ?he0 ?aC1 ?pg1 ?hd1 ?po1 ?sa1 ?ka1 ?kn1 ?kt1 ?km1 ?tt1 ?k01 ?k21 ?k31 ?k41 ?mk1 ?kc1 ?ai1 ?ii1 ?ae1 ?ie1 ?s01 ?s21 ?s31 ?s41 ?n1_n ?n1_zeros ?n1_dim ?n1_sides ?n1_rays ?hi1 ?he1 ?aC2 ?pg2 ?hd2 ?po2 ?sa2 ?ka2 ?kn2 ?kt2 ?km2 ?tt2 ?k02 ?k22 ?k32 ?k42 ?mk2 ?kc2 ?ai2 ?ii2 ?ae2 ?ie2 ?s02 ?s22 ?s32 ?s42 ?n2_n ?n2_rays ?n2_cones ?n2_parts ?hi2 ?he2 ?b_abs ?b_all ?b_any ?b_bool ?b_enumerate ?b_int ?b_isinstance ?b_len ?b_list ?b_range ?b_set ?b_sorted ?b_sum ?b_tuple ?b_zip ?k_MOST_CONES ?k_MOST_ITEM ?k_MOST_MAKERS
    (case a_is_integer => k_is)
    (case h_is_integer => refine' Ev.fnAt ?l ?c ?k; (case l => k_is); (case c => k_is); (case k => k_is))
    (case a_check_from => k_is)
    (case h_check_from => refine' Ev.fnAt ?l ?c ?k; (case l => k_is); (case c => k_is); (case k => k_is))
    (case a_common => k_is)
    (case h_common => refine' Ev.fnAt ?l ?c ?k; (case l => k_is); (case c => k_is); (case k => k_is))
    (case a_picks => k_is)
    (case h_picks => refine' Ev.fnAt ?l ?c ?k; (case l => k_is); (case c => k_is); (case k => k_is))
    (case a_is_vector => k_is)
    (case h_is_vector => refine' Ev.fnAt ?l ?c ?k; (case l => k_is); (case c => k_is); (case k => k_is))
    (case a_check_vector => k_is)
    (case h_check_vector => refine' Ev.fnAt ?l ?c ?k; (case l => k_is); (case c => k_is); (case k => k_is))
    (case a_is_null => k_is)
    (case h_is_null => refine' Ev.fnAt ?l ?c ?k; (case l => k_is); (case c => k_is); (case k => k_is))
    (case a_dot => k_is)
    (case h_dot => refine' Ev.fnAt ?l ?c ?k; (case l => k_is); (case c => k_is); (case k => k_is))
    (case a_scaled => k_is)
    (case h_scaled => refine' Ev.fnAt ?l ?c ?k; (case l => k_is); (case c => k_is); (case k => k_is))
    (case a_common_item => k_is)
    (case h_common_item => refine' Ev.fnAt ?l ?c ?k; (case l => k_is); (case c => k_is); (case k => k_is))
    (case a_primitive => k_is)
    (case h_primitive => refine' Ev.fnAt ?l ?c ?k; (case l => k_is); (case c => k_is); (case k => k_is))
    (case a_least_at => k_is)
    (case h_least_at => refine' Ev.fnAt ?l ?c ?k; (case l => k_is); (case c => k_is); (case k => k_is))
    (case a_normal_form => k_is)
    (case h_normal_form => refine' Ev.fnAt ?l ?c ?k; (case l => k_is); (case c => k_is); (case k => k_is))
    (case a_whole_rank => k_is)
    (case h_whole_rank => refine' Ev.fnAt ?l ?c ?k; (case l => k_is); (case c => k_is); (case k => k_is))
    (case a_eliminated => k_is)
    (case h_eliminated => refine' Ev.fnAt ?l ?c ?k; (case l => k_is); (case c => k_is); (case k => k_is))
    (case a_null_rows => k_is)
    (case h_null_rows => refine' Ev.fnAt ?l ?c ?k; (case l => k_is); (case c => k_is); (case k => k_is))
    (case a_across => k_is)
    (case h_across => refine' Ev.fnAt ?l ?c ?k; (case l => k_is); (case c => k_is); (case k => k_is))
    (case a_side_rows => k_is)
    (case h_side_rows => refine' Ev.fnAt ?l ?c ?k; (case l => k_is); (case c => k_is); (case k => k_is))
    (case a_is_edge => k_is)
    (case h_is_edge => refine' Ev.fnAt ?l ?c ?k; (case l => k_is); (case c => k_is); (case k => k_is))
    (case a_edges_of => k_is)
    (case h_edges_of => refine' Ev.fnAt ?l ?c ?k; (case l => k_is); (case c => k_is); (case k => k_is))
    (case a_crossing_rays => k_is)
    (case h_crossing_rays => refine' Ev.fnAt ?l ?c ?k; (case l => k_is); (case c => k_is); (case k => k_is))
    (case a_is_places => k_is)
    (case h_is_places => refine' Ev.fnAt ?l ?c ?k; (case l => k_is); (case c => k_is); (case k => k_is))
    (case a_made_cone => k_is)
    (case h_made_cone => refine' Ev.fnAt ?l ?c ?k; (case l => k_is); (case c => k_is); (case k => k_is))
    (case a_are_face => k_is)
    (case h_are_face => refine' Ev.fnAt ?l ?c ?k; (case l => k_is); (case c => k_is); (case k => k_is))
    (case a_check_meeting => k_is)
    (case h_check_meeting => refine' Ev.fnAt ?l ?c ?k; (case l => k_is); (case c => k_is); (case k => k_is))
    (case a_projective => k_is)
    (case h_projective => refine' Ev.fnAt ?l ?c ?k; (case l => k_is); (case c => k_is); (case k => k_is))
    (case a_round_fan => k_is)
    (case h_round_fan => refine' Ev.fnAt ?l ?c ?k; (case l => k_is); (case c => k_is); (case k => k_is))
    (case a_ruled => k_is)
    (case h_ruled => refine' Ev.fnAt ?l ?c ?k; (case l => k_is); (case c => k_is); (case k => k_is))
    (case a__law_take => k_is)
    (case h__law_take => refine' Ev.fnAt ?l ?c ?k; (case l => k_is); (case c => k_is); (case k => k_is))
    (case a__law_says => k_is)
    (case h__law_says => refine' Ev.fnAt ?l ?c ?k; (case l => k_is); (case c => k_is); (case k => k_is))
    (case a__law_asked => k_is)
    (case h__law_asked => refine' Ev.fnAt ?l ?c ?k; (case l => k_is); (case c => k_is); (case k => k_is))
    (case a__law_ratios_go => k_is)
    (case h__law_ratios_go => refine' Ev.fnAt ?l ?c ?k; (case l => k_is); (case c => k_is); (case k => k_is))
    (case a__law_cones_go => k_is)
    (case h__law_cones_go => refine' Ev.fnAt ?l ?c ?k; (case l => k_is); (case c => k_is); (case k => k_is))
    (case a__law_fans_go => k_is)
    (case h__law_fans_go => refine' Ev.fnAt ?l ?c ?k; (case l => k_is); (case c => k_is); (case k => k_is))
    (case a_law_state => k_is)
    (case h_law_state => refine' Ev.fnAt ?l ?c ?k; (case l => k_is); (case c => k_is); (case k => k_is))
    (case a_law => k_is)
    (case h_law => refine' Ev.fnAt ?l ?c ?k; (case l => k_is); (case c => k_is); (case k => k_is))
    (case aC0 => k_is)
    (case pg0 => k_is)
    (case hd0 => k_is)
    (case po0 => k_is)
    (case sa0 => k_is)
    (case ka0 => k_is)
    (case kn0 => k_is)
    (case kt0 => k_is)
    (case km0 => k_is)
    (case tt0 => k_is)
    (case k00 => k_is)
    (case k20 => k_is)
    (case k30 => k_is)
    (case k40 => k_is)
    (case mk0 => k_is)
    (case kc0 => k_is)
    (case ai0 => k_is)
    (case ii0 => k_is)
    (case ae0 => k_is)
    (case ie0 => k_is)
    (case s00 => k_is)
    (case s20 => k_is)
    (case s30 => k_is)
    (case s40 => k_is)
    (case n0_n => k_is)
    (case n0_d => k_is)
    (case hi0 => refine' Ev.fnAtD ?l ?c ?k ?lt ?hd; (case l => k_is); (case c => k_is); (case k => k_is); (case lt => k_is); (case hd => rfl))
    (case he0 => refine' Ev.fnAt ?l ?c ?k; (case l => k_is); (case c => k_is); (case k => k_is))
    (case aC1 => k_is)
    (case pg1 => k_is)
    (case hd1 => k_is)
    (case po1 => k_is)
    (case sa1 => k_is)
    (case ka1 => k_is)
    (case kn1 => k_is)
    (case kt1 => k_is)
    (case km1 => k_is)
    (case tt1 => k_is)
    (case k01 => k_is)
    (case k21 => k_is)
    (case k31 => k_is)
    (case k41 => k_is)
    (case mk1 => k_is)
    (case kc1 => k_is)
    (case ai1 => k_is)
    (case ii1 => k_is)
    (case ae1 => k_is)
    (case ie1 => k_is)
    (case s01 => k_is)
    (case s21 => k_is)
    (case s31 => k_is)
    (case s41 => k_is)
    (case n1_n => k_is)
    (case n1_zeros => k_is)
    (case n1_dim => k_is)
    (case n1_sides => k_is)
    (case n1_rays => k_is)
    (case hi1 => refine' Ev.fnAt ?l ?c ?k; (case l => k_is); (case c => k_is); (case k => k_is))
    (case he1 => refine' Ev.fnAt ?l ?c ?k; (case l => k_is); (case c => k_is); (case k => k_is))
    (case aC2 => k_is)
    (case pg2 => k_is)
    (case hd2 => k_is)
    (case po2 => k_is)
    (case sa2 => k_is)
    (case ka2 => k_is)
    (case kn2 => k_is)
    (case kt2 => k_is)
    (case km2 => k_is)
    (case tt2 => k_is)
    (case k02 => k_is)
    (case k22 => k_is)
    (case k32 => k_is)
    (case k42 => k_is)
    (case mk2 => k_is)
    (case kc2 => k_is)
    (case ai2 => k_is)
    (case ii2 => k_is)
    (case ae2 => k_is)
    (case ie2 => k_is)
    (case s02 => k_is)
    (case s22 => k_is)
    (case s32 => k_is)
    (case s42 => k_is)
    (case n2_n => k_is)
    (case n2_rays => k_is)
    (case n2_cones => k_is)
    (case n2_parts => k_is)
    (case hi2 => refine' Ev.fnAt ?l ?c ?k; (case l => k_is); (case c => k_is); (case k => k_is))
    (case he2 => refine' Ev.fnAt ?l ?c ?k; (case l => k_is); (case c => k_is); (case k => k_is))
    (case b_abs => k_is)
    (case b_all => k_is)
    (case b_any => k_is)
    (case b_bool => k_is)
    (case b_enumerate => k_is)
    (case b_int => k_is)
    (case b_isinstance => k_is)
    (case b_len => k_is)
    (case b_list => k_is)
    (case b_range => k_is)
    (case b_set => k_is)
    (case b_sorted => k_is)
    (case b_sum => k_is)
    (case b_tuple => k_is)
    (case b_zip => k_is)
    (case k_MOST_CONES => k_is)
    (case k_MOST_ITEM => k_is)
    (case k_MOST_MAKERS => k_is)
