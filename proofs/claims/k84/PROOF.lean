import PyProof.Rows.All
import Wide.All
import OpenK.AllK
import Wide.FinOn
import HandS.ForMost
import HandS.Exc
import HandS.TryOnly
import HandS.ExcOwn
import HandS.WordsExc
import HandS.CallSlots
import HandS.TupAny
import HandS.IsInst
import HandS.Walk
import HandS.TupMul
import HandS.Deep
import HandS.Style
import HandS.Defaults
import HandS.Dict
import KE.IntTextLaws
import HandS.Text
import HandS.Ends
import HandS.HeadEnd
import KE.KStateDown
import HandS.Base
import HandS.Call
import HandS.More
import HandS.Words
import HandS.Head0
import HandS.Head1
import HandS.Head2
import HandS.HeadHook1
import HandS.HeadHook2
import PySem.Challenge.RW_noghostkey_k84_texts_of_houses_and_stand
set_option Elab.async false
set_option linter.all false
set_option maxRecDepth 100000
set_option maxHeartbeats 1000000
/-! FM1: data, what they stand for, the frame's state. -/
namespace FM
open PySem L2

/-- data: none, bools, ints, texts, tuples, lists that stay, dicts that stay; then what one name owns: a list, an instance, a dict; then a name's owned thing, lent -/
inductive D where
  | non | bl (b : Bool) | int (i : Int) | str (l : List Nat) | tup (l : List D) | lst (l : List D) | dic (l : List (D × D))
  | ty (n : String) | cls (C : Addr)
  | own (l : List D) | obj (C : Addr) (fs : List (Str × D)) | odi (l : List (D × D)) | brw (i : Nat)

/-- tuples and frozen things stay -/
def Kp (H H' : Hp) : Prop := (∀ a vs, H a = some (.tup vs) → H' a = some (.tup vs)) ∧ ∀ a o u, H a = some (.frz o u) → H' a = some (.frz o u)
theorem Kp.refl (H : Hp) : Kp H H := ⟨fun _ _ h => h, fun _ _ _ h => h⟩
theorem Kp.trans {H H1 H2 : Hp} (a : Kp H H1) (b : Kp H1 H2) : Kp H H2 := ⟨fun x vs h => b.1 x vs (a.1 x vs h), fun x o u h => b.2 x o u (a.2 x o u h)⟩

def FzL (K : PySem.W.Frag) (H : Hp) (a : Addr) (xs : List V) : Prop :=
  (∃ o, H a = some (.frz o (.lst xs))) ∨
    ∃ (o : Obj) (its : Array Value) (n : Nat), K.lookup a = some o ∧ o.cls = .type "list" ∧ o.dict = none ∧ o.data = .seq its n ∧ its.size ≤ sizeLine ∧ Vals xs its.toList
theorem FzL.sq {K : PySem.W.Frag} {H : Hp} {a : Addr} {xs : List V} (h : FzL K H a xs) : SqL K H a xs := by
  rcases h with ⟨o, h⟩ | h
  · exact .inl (.inr ⟨o, h⟩)
  · exact .inr h
theorem FzL.keep {K : PySem.W.Frag} {H H' : Hp} {a : Addr} {xs : List V} (k : Kp H H') (h : FzL K H a xs) : FzL K H' a xs := by
  rcases h with ⟨o, h⟩ | h
  · exact .inl ⟨o, k.2 _ _ _ h⟩
  · exact .inr h
theorem sqT_keep {K : PySem.W.Frag} {H H' : Hp} {a : Addr} {xs : List V} (k : Kp H H') (h : SqT K H a xs) : SqT K H' a xs := by
  rcases h with (h | ⟨o, h⟩) | h
  · exact .inl (.inl (k.1 _ _ h))
  · exact .inl (.inr ⟨o, k.2 _ _ _ h⟩)
  · exact .inr h

mutual
/-- what stays -/
inductive RI (K : PySem.W.Frag) (H : Hp) : D → V → Prop
  | non : RI K H .non .non
  | bl (b : Bool) : RI K H (.bl b) (.bl b)
  | int (i : Int) : RI K H (.int i) (.int i)
  | str (l : List Nat) : RI K H (.str l) (.str ⟨l.toArray⟩)
  | ty (n : String) : RI K H (.ty n) (.ty n)
  | cls (C : Addr) : RI K H (.cls C) (.ref C)
  | tup {a vs ds} : SqT K H a vs → RIs K H ds vs → RI K H (.tup ds) (.ref a)
  | lst {a vs ds} : FzL K H a vs → RIs K H ds vs → RI K H (.lst ds) (.ref a)
  | dic {a o kvs ls} : H a = some (.frz o (.dK kvs)) → RKs K H ls kvs → RI K H (.dic ls) (.ref a)
inductive RIs (K : PySem.W.Frag) (H : Hp) : List D → List V → Prop
  | nil : RIs K H [] []
  | cons {d v ds vs} : RI K H d v → RIs K H ds vs → RIs K H (d :: ds) (v :: vs)
inductive RKs (K : PySem.W.Frag) (H : Hp) : List (D × D) → List (Key × V) → Prop
  | nil : RKs K H [] []
  | int {i d v ds vs} : RI K H d v → RKs K H ds vs → RKs K H ((.int i, d) :: ds) ((Sum.inl i, v) :: vs)
  | str {l d v ds vs} : RI K H d v → RKs K H ds vs → RKs K H ((.str l, d) :: ds) ((Sum.inr ⟨l.toArray⟩, v) :: vs)
end
mutual
theorem RI.keep {K : PySem.W.Frag} {H H' : Hp} (k : Kp H H') : ∀ {d v}, RI K H d v → RI K H' d v
  | _, _, .non => .non
  | _, _, .bl b => .bl b
  | _, _, .int i => .int i
  | _, _, .str l => .str l
  | _, _, .ty n => .ty n
  | _, _, .cls n => .cls n
  | _, _, .tup h r => .tup (sqT_keep k h) (RIs.keep k r)
  | _, _, .lst h r => .lst (h.keep k) (RIs.keep k r)
  | _, _, .dic h r => .dic (k.2 _ _ _ h) (RKs.keep k r)
theorem RIs.keep {K : PySem.W.Frag} {H H' : Hp} (k : Kp H H') : ∀ {d v}, RIs K H d v → RIs K H' d v
  | _, _, .nil => .nil
  | _, _, .cons h r => .cons (RI.keep k h) (RIs.keep k r)
theorem RKs.keep {K : PySem.W.Frag} {H H' : Hp} (k : Kp H H') : ∀ {d v}, RKs K H d v → RKs K H' d v
  | _, _, .nil => .nil
  | _, _, .int h r => .int (RI.keep k h) (RKs.keep k r)
  | _, _, .str h r => .str (RI.keep k h) (RKs.keep k r)
end
theorem RIs.length {K : PySem.W.Frag} {H : Hp} : ∀ {ds vs}, RIs K H ds vs → ds.length = vs.length
  | _, _, .nil => rfl
  | _, _, .cons _ r => congrArg (· + 1) r.length
theorem RIs.get {K : PySem.W.Frag} {H : Hp} : ∀ {ds vs} {i : Nat} {d : D}, RIs K H ds vs → ds[i]? = some d → ∃ v, vs[i]? = some v ∧ RI K H d v
  | _, _, _, _, .nil, e => by simp at e
  | _, _, 0, _, .cons h _, e => by simp at e; subst e; exact ⟨_, rfl, h⟩
  | _, _, i + 1, d, .cons _ r, e => by
    obtain ⟨v, h1, h2⟩ := RIs.get (i := i) (d := d) r (by simpa using e)
    exact ⟨v, by simpa using h1, h2⟩
theorem RIs.getV {K : PySem.W.Frag} {H : Hp} : ∀ {ds vs} {i : Nat} {v : V}, RIs K H ds vs → vs[i]? = some v → ∃ d, ds[i]? = some d ∧ RI K H d v
  | _, _, _, _, .nil, e => by simp at e
  | _, _, 0, _, .cons h _, e => by simp at e; subst e; exact ⟨_, rfl, h⟩
  | _, _, i + 1, d, .cons _ r, e => by
    obtain ⟨v, h1, h2⟩ := RIs.getV (i := i) (v := d) r (by simpa using e)
    exact ⟨v, by simpa using h1, h2⟩
theorem RIs.append {K : PySem.W.Frag} {H : Hp} : ∀ {ds es vs ws}, RIs K H ds vs → RIs K H es ws → RIs K H (ds ++ es) (vs ++ ws)
  | _, _, _, _, .nil, s => s
  | _, _, _, _, .cons h r, s => .cons h (r.append s)
theorem RIs.take {K : PySem.W.Frag} {H : Hp} : ∀ {ds vs} (n : Nat), RIs K H ds vs → RIs K H (ds.take n) (vs.take n)
  | _, _, 0, _ => .nil
  | _, _, _ + 1, .nil => .nil
  | _, _, n + 1, .cons h r => .cons h (r.take n)
theorem RIs.drop {K : PySem.W.Frag} {H : Hp} : ∀ {ds vs} (n : Nat), RIs K H ds vs → RIs K H (ds.drop n) (vs.drop n)
  | _, _, 0, r => r
  | _, _, _ + 1, .nil => .nil
  | _, _, n + 1, .cons _ r => r.drop n
theorem RIs.reverse {K : PySem.W.Frag} {H : Hp} : ∀ {ds vs}, RIs K H ds vs → RIs K H ds.reverse vs.reverse
  | _, _, .nil => .nil
  | _, _, .cons h r => by
    rw [List.reverse_cons, List.reverse_cons]
    exact r.reverse.append (.cons h .nil)
theorem RIs.set {K : PySem.W.Frag} {H : Hp} {d : D} {v : V} (h : RI K H d v) : ∀ {ds vs} (n : Nat), RIs K H ds vs → RIs K H (ds.set n d) (vs.set n v)
  | _, _, _, .nil => .nil
  | _, _, 0, .cons _ r => .cons h r
  | _, _, n + 1, .cons g r => .cons g (RIs.set h n r)
theorem RIs.rep {K : PySem.W.Frag} {H : Hp} {ds vs} (r : RIs K H ds vs) : ∀ k : Nat, RIs K H (List.replicate k ds).flatten (List.replicate k vs).flatten
  | 0 => .nil
  | k + 1 => by
    rw [List.replicate_succ, List.replicate_succ, List.flatten_cons, List.flatten_cons]
    exact r.append (r.rep k)

mutual
/-- a thing with the addresses that it owns -/
inductive RO (K : PySem.W.Frag) (H : Hp) : D → V → List Addr → Prop
  | imm {d v} : RI K H d v → RO K H d v []
  | own {a vs ds} : H a = some (.lst vs) → RIs K H ds vs → RO K H (.own ds) (.ref a) [a]
  | odi {a kvs ls} : H a = some (.dK kvs) → RKs K H ls kvs → RO K H (.odi ls) (.ref a) [a]
  | obj {a C dx fs fvs fp} : H a = some (.ins C dx fvs) → ROf K H fs fvs fp → RO K H (.obj C fs) (.ref a) (a :: fp)
inductive ROf (K : PySem.W.Frag) (H : Hp) : List (Str × D) → List (Str × V) → List Addr → Prop
  | nil : ROf K H [] [] []
  | cons {n d v fs fvs fp1 fp2} : RO K H d v fp1 → ROf K H fs fvs fp2 → ROf K H ((n, d) :: fs) ((n, v) :: fvs) (fp1 ++ fp2)
end
/-- what is owned stays as it is -/
def KpO (fp : List Addr) (H H' : Hp) : Prop := ∀ a ∈ fp, H' a = H a
mutual
theorem RO.keep {K : PySem.W.Frag} {H H' : Hp} (k : Kp H H') : ∀ {d v fp}, RO K H d v fp → KpO fp H H' → RO K H' d v fp
  | _, _, _, .imm h, _ => .imm (h.keep k)
  | _, _, _, .own h r, o => .own ((o _ List.mem_cons_self).trans h) (r.keep k)
  | _, _, _, .odi h r, o => .odi ((o _ List.mem_cons_self).trans h) (r.keep k)
  | _, _, _, .obj h r, o => .obj ((o _ List.mem_cons_self).trans h) (ROf.keep k r fun a ha => o a (List.mem_cons_of_mem _ ha))
theorem ROf.keep {K : PySem.W.Frag} {H H' : Hp} (k : Kp H H') : ∀ {d v fp}, ROf K H d v fp → KpO fp H H' → ROf K H' d v fp
  | _, _, _, .nil, _ => .nil
  | _, _, _, .cons h r, o => .cons (RO.keep k h fun a ha => o a (List.mem_append_left _ ha)) (ROf.keep k r fun a ha => o a (List.mem_append_right _ ha))
end
/-- the kinds of what is owned -/
def OwnKind (o : HO) : Prop := (∃ vs, o = .lst vs) ∨ (∃ kvs, o = .dK kvs) ∨ ∃ C dx fs, o = .ins C dx fs
mutual
theorem RO.there {K : PySem.W.Frag} {H : Hp} : ∀ {d v fp}, RO K H d v fp → ∀ a ∈ fp, ∃ o, H a = some o ∧ OwnKind o
  | _, _, _, .imm _, _, ha => by simp at ha
  | _, _, _, .own h _, a, ha => by
    have e : a = _ := List.mem_singleton.mp ha
    subst e
    exact ⟨_, h, .inl ⟨_, rfl⟩⟩
  | _, _, _, .odi h _, a, ha => by
    have e : a = _ := List.mem_singleton.mp ha
    subst e
    exact ⟨_, h, .inr (.inl ⟨_, rfl⟩)⟩
  | _, _, _, .obj h r, a, ha => by
    rcases List.mem_cons.mp ha with e | ha
    · subst e
      exact ⟨_, h, .inr (.inr ⟨_, _, _, rfl⟩)⟩
    · exact ROf.there r a ha
theorem ROf.there {K : PySem.W.Frag} {H : Hp} : ∀ {d v fp}, ROf K H d v fp → ∀ a ∈ fp, ∃ o, H a = some o ∧ OwnKind o
  | _, _, _, .nil, _, ha => by simp at ha
  | _, _, _, .cons h r, a, ha => by
    rcases List.mem_append.mp ha with ha | ha
    · exact RO.there h a ha
    · exact ROf.there r a ha
end

/-! ### the frame's slots -/
abbrev Loc := List (Option D)
inductive RL (K : PySem.W.Frag) (H : Hp) : Loc → L2.St → List Addr → Prop
  | nil : RL K H [] [] []
  | gap {x loc σ fp} : RL K H loc σ fp → RL K H (none :: loc) (x :: σ) fp
  | slot {d v loc σ fp1 fp2} : RO K H d v fp1 → RL K H loc σ fp2 → RL K H (some d :: loc) (some v :: σ) (fp1 ++ fp2)
theorem RL.length {K : PySem.W.Frag} {H : Hp} : ∀ {loc σ fp}, RL K H loc σ fp → loc.length = σ.length
  | _, _, _, .nil => rfl
  | _, _, _, .gap r => congrArg (· + 1) r.length
  | _, _, _, .slot _ r => congrArg (· + 1) r.length
theorem RL.keep {K : PySem.W.Frag} {H H' : Hp} (k : Kp H H') : ∀ {loc σ fp}, RL K H loc σ fp → KpO fp H H' → RL K H' loc σ fp
  | _, _, _, .nil, _ => .nil
  | _, _, _, .gap r, o => .gap (r.keep k o)
  | _, _, _, .slot h r, o => .slot (h.keep k fun a ha => o a (List.mem_append_left _ ha)) (r.keep k fun a ha => o a (List.mem_append_right _ ha))
theorem RL.there {K : PySem.W.Frag} {H : Hp} : ∀ {loc σ fp}, RL K H loc σ fp → ∀ a ∈ fp, ∃ o, H a = some o ∧ OwnKind o
  | _, _, _, .nil, _, ha => by simp at ha
  | _, _, _, .gap r, a, ha => r.there a ha
  | _, _, _, .slot h r, a, ha => by
    rcases List.mem_append.mp ha with ha | ha
    · exact h.there a ha
    · exact r.there a ha
/-- a slot taken out -/
theorem RL.take {K : PySem.W.Frag} {H : Hp} : ∀ {loc σ fp} {i : Nat} {d : D}, RL K H loc σ fp → loc[i]? = some (some d) →
    ∃ v fp1 fp2, σ[i]? = some (some v) ∧ RO K H d v fp1 ∧ RL K H (loc.set i none) σ fp2 ∧ fp.Perm (fp1 ++ fp2)
  | _, _, _, _, _, .nil, e => by simp at e
  | _, _, _, 0, _, .gap r, e => by simp at e
  | _, _, _, i + 1, d, .gap r, e => by
    obtain ⟨v, f1, f2, h1, h2, h3, h4⟩ := RL.take (i := i) (d := d) r (by simpa using e)
    exact ⟨v, f1, f2, by simpa using h1, h2, .gap h3, h4⟩
  | _, _, _, 0, _, .slot h r, e => by
    simp at e
    subst e
    exact ⟨_, _, _, rfl, h, .gap r, .refl _⟩
  | _, _, _, i + 1, d, .slot (fp1 := g1) (fp2 := g2) h r, e => by
    obtain ⟨v, f1, f2, h1, h2, h3, h4⟩ := RL.take (i := i) (d := d) r (by simpa using e)
    refine ⟨v, f1, g1 ++ f2, by simpa using h1, h2, .slot h h3, ?_⟩
    refine (List.Perm.append_left g1 h4).trans ?_
    rw [← List.append_assoc, ← List.append_assoc]
    exact List.Perm.append_right f2 List.perm_append_comm
/-- a slot forgotten: what it owned goes -/
theorem RL.drop {K : PySem.W.Frag} {H : Hp} {loc σ fp} (i : Nat) (r : RL K H loc σ fp) : ∃ f1 f2, RL K H (loc.set i none) σ f2 ∧ fp.Perm (f1 ++ f2) := by
  cases e : loc[i]? with
  | none =>
    refine ⟨[], fp, ?_, .refl _⟩
    rw [List.set_eq_of_length_le (List.getElem?_eq_none_iff.mp e)]
    exact r
  | some o =>
    cases o with
    | none =>
      refine ⟨[], fp, ?_, .refl _⟩
      have e2 : loc.set i none = loc := by
        apply List.ext_getElem?
        intro j
        by_cases hj : i = j
        · subst hj
          rw [List.getElem?_set_self (List.getElem?_eq_some_iff.mp e).1, e]
        · rw [List.getElem?_set_ne hj]
      rw [e2]
      exact r
    | some d =>
      obtain ⟨v, f1, f2, _, _, h3, h4⟩ := r.take e
      exact ⟨f1, f2, h3, h4⟩
/-- an empty slot filled, the value stored -/
theorem RL.put {K : PySem.W.Frag} {H : Hp} {d : D} {v : V} {f1 : List Addr} (h : RO K H d v f1) : ∀ {loc σ fp} {i : Nat}, RL K H loc σ fp → loc[i]? = some none →
    ∃ fp', RL K H (loc.set i (some d)) (σ.set i (some v)) fp' ∧ fp'.Perm (f1 ++ fp)
  | _, _, _, _, .nil, e => by simp at e
  | _, _, _, 0, .gap r, e => ⟨_, .slot h r, .refl _⟩
  | _, _, _, i + 1, .gap r, e => by
    obtain ⟨f, h1, h2⟩ := RL.put h (i := i) r (by simpa using e)
    exact ⟨f, .gap h1, h2⟩
  | _, _, _, 0, .slot _ r, e => by simp at e
  | _, _, _, i + 1, .slot (fp1 := g1) (fp2 := g2) g r, e => by
    obtain ⟨f, h1, h2⟩ := RL.put h (i := i) r (by simpa using e)
    refine ⟨g1 ++ f, .slot g h1, ?_⟩
    refine (List.Perm.append_left g1 h2).trans ?_
    rw [← List.append_assoc, ← List.append_assoc]
    exact List.Perm.append_right g2 List.perm_append_comm
theorem set_same {α : Type} {l : List α} {i : Nat} {x : α} (h : l[i]? = some x) : l.set i x = l := by
  apply List.ext_getElem?
  intro j
  by_cases hj : i = j
  · subst hj
    rw [List.getElem?_set_self (List.getElem?_eq_some_iff.mp h).1, h]
  · rw [List.getElem?_set_ne hj]
/-- .. the value stands there already -/
theorem RL.fill {K : PySem.W.Frag} {H : Hp} {d : D} {v : V} {f1 : List Addr} (h : RO K H d v f1) {loc σ fp} {i : Nat} (r : RL K H loc σ fp) (e : loc[i]? = some none) (es : σ[i]? = some (some v)) :
    ∃ fp', RL K H (loc.set i (some d)) σ fp' ∧ fp'.Perm (f1 ++ fp) := by
  obtain ⟨f, h1, h2⟩ := RL.put h r e
  rw [set_same es] at h1
  exact ⟨f, h1, h2⟩
theorem getset {α : Type} {l : List α} {i : Nat} {x y : α} (h : l[i]? = some x) : (l.set i y)[i]? = some y := List.getElem?_set_self (List.getElem?_eq_some_iff.mp h).1
/-- slot i by another thing at the same value -/
theorem RL.turn {K : PySem.W.Frag} {H : Hp} {loc : Loc} {σ : L2.St} {f2 : List Addr} {i : Nat} {d d' : D} {v : V} {f1 : List Addr} (e : loc[i]? = some (some d)) (es : σ[i]? = some (some v)) (r : RL K H (loc.set i none) σ f2) (h : RO K H d' v f1) :
    ∃ fp', RL K H (loc.set i (some d')) σ fp' ∧ fp'.Perm (f1 ++ f2) := by
  obtain ⟨f, h1, h2⟩ := RL.fill h r (getset e) es
  rw [List.set_set] at h1
  exact ⟨f, h1, h2⟩

/-! ### from one heap to another, owning fp ahead and fp' behind -/
structure Tr (fp : List Addr) (H : Hp) (fp' : List Addr) (H' : Hp) : Prop where
  fr : ∀ a o, H a = some o → a ∉ fp → H' a = some o
  kp : Kp H H'
  new : ∀ a ∈ fp', a ∈ fp ∨ H a = none
theorem Tr.refl (fp : List Addr) (H : Hp) : Tr fp H fp H := ⟨fun _ _ h _ => h, .refl H, fun _ h => .inl h⟩
theorem Tr.trans {f0 f1 f2 : List Addr} {H0 H1 H2 : Hp} (a : Tr f0 H0 f1 H1) (b : Tr f1 H1 f2 H2) : Tr f0 H0 f2 H2 where
  fr := fun x o h hn => b.fr x o (a.fr x o h hn) fun hx => (a.new x hx).elim hn fun z => by rw [h] at z; cases z
  kp := a.kp.trans b.kp
  new := fun x hx => by
    rcases b.new x hx with h | h
    · exact a.new x h
    · by_cases hm : x ∈ f0
      · exact .inl hm
      · refine .inr ?_
        cases e : H0 x with
        | none => rfl
        | some o =>
          rw [a.fr x o e hm] at h
          cases h
/-- fewer are owned behind -/
theorem Tr.less {f0 f1 f2 : List Addr} {H0 H1 : Hp} (a : Tr f0 H0 f1 H1) (h : ∀ x ∈ f2, x ∈ f1) : Tr f0 H0 f2 H1 := ⟨a.fr, a.kp, fun x hx => a.new x (h x hx)⟩
theorem Tr.perm {f0 f1 f2 : List Addr} {H0 H1 : Hp} (a : Tr f0 H0 f1 H1) (h : f2.Perm f1) : Tr f0 H0 f2 H1 := a.less fun x hx => h.mem_iff.mp hx
/-- more may be changed -/
theorem Tr.more {f0 f0' f1 : List Addr} {H0 H1 : Hp} (a : Tr f0 H0 f1 H1) (h : ∀ x ∈ f0, x ∈ f0') : Tr f0' H0 f1 H1 := ⟨fun x o e hn => a.fr x o e fun z => hn (h x z), a.kp, fun x hx => (a.new x hx).imp (h x) id⟩
/-- what stands apart, owned, stays -/
theorem Tr.apart {f1 f2 g : List Addr} {H H' : Hp} (t : Tr f1 H f2 H') (hg : ∀ a ∈ g, ∃ o, H a = some o) (hd : ∀ a ∈ g, a ∉ f1) : KpO g H H' := fun a ha => by
  obtain ⟨o, e⟩ := hg a ha
  rw [t.fr a o e (hd a ha), e]
/-- .. and apart -/
theorem Tr.still {f1 f2 g : List Addr} {H H' : Hp} (t : Tr f1 H f2 H') (hg : ∀ a ∈ g, ∃ o, H a = some o) (hd : ∀ a ∈ g, a ∉ f1) : ∀ a ∈ g, a ∉ f2 := fun a ha h2 => by
  obtain ⟨o, e⟩ := hg a ha
  rcases t.new a h2 with z | z
  · exact hd a ha z
  · rw [e] at z
    cases z
/-- new things only -/
def Ext (H H' : Hp) : Prop := ∀ a o, H a = some o → H' a = some o
theorem Ext.kp {H H' : Hp} (e : Ext H H') : Kp H H' := ⟨fun a vs h => e a _ h, fun a o u h => e a _ h⟩
theorem Ext.refl (H : Hp) : Ext H H := fun _ _ h => h
theorem Ext.new {H : Hp} {p : Addr} {o : HO} (h : H p = none) : Ext H (upd H p o) := fun a u e => by
  rw [upd_ne (ne_of_none e h)]
  exact e
theorem Ext.trans {H H1 H2 : Hp} (a : Ext H H1) (b : Ext H1 H2) : Ext H H2 := fun x o h => b x o (a x o h)
theorem Ext.tr {H H' : Hp} (e : Ext H H') {fp fd : List Addr} (h : ∀ a ∈ fd, H a = none) : Tr fp H (fd ++ fp) H' :=
  ⟨fun a o h _ => e a o h, e.kp, fun a ha => (List.mem_append.mp ha).elim (fun z => .inr (h a z)) .inl⟩
theorem Ext.kpO {H H' : Hp} (e : Ext H H') {fp : List Addr} (h : ∀ a ∈ fp, ∃ o, H a = some o) : KpO fp H H' := fun a ha => by
  obtain ⟨o, z⟩ := h a ha
  rw [e a o z, z]
end FM

set_option maxHeartbeats 1000000
/-! FM2: results, readings by functions, expressions. -/
namespace FM
open PySem L2

structure Exn where
  C : Addr
  fs : Option (List (Str × D))
inductive Res (α : Type) where
  | ok (a : α) (loc : Loc) | exc (x : Exn) (loc : Loc) | bad
abbrev M (α : Type) := Loc → Res α
def RX (K : PySem.W.Frag) (H : Hp) (x : Exn) (cls : Value) (dd : Option Addr) : Prop :=
  cls = .ref x.C ∧ match x.fs with
    | none => dd = none
    | some fs => ∃ d fvs, dd = some d ∧ H d = some (.xd fvs) ∧ ROf K H fs fvs []

/-- a value within an expression: a thing with what it owns, or a name's thing lent -/
def RV (K : PySem.W.Frag) (H : Hp) (σ : L2.St) (d : D) (v : V) (fp : List Addr) : Prop := RO K H d v fp ∨ ∃ i, d = .brw i ∧ σ[i]? = some (some v) ∧ fp = []
inductive RVs (K : PySem.W.Frag) (H : Hp) (σ : L2.St) : List D → List V → List Addr → Prop
  | nil : RVs K H σ [] [] []
  | cons {d v f1 ds vs f2} : RV K H σ d v f1 → RVs K H σ ds vs f2 → RVs K H σ (d :: ds) (v :: vs) (f1 ++ f2)
section
variable {K : PySem.W.Frag} {H H' : Hp} {σ : L2.St}
theorem RV.keep {d v fp} (k : Kp H H') (h : RV K H σ d v fp) (o : KpO fp H H') : RV K H' σ d v fp := by
  rcases h with h | ⟨i, e1, e2, e3⟩
  · exact .inl (h.keep k o)
  · exact .inr ⟨i, e1, e2, e3⟩
theorem RV.there {d v fp} (h : RV K H σ d v fp) : ∀ a ∈ fp, ∃ o, H a = some o := by
  rcases h with h | ⟨i, e1, e2, e3⟩
  · exact fun a ha => let ⟨o, e, _⟩ := h.there a ha; ⟨o, e⟩
  · subst e3
    intro a ha
    cases ha
theorem RVs.keep (k : Kp H H') : ∀ {ds vs fp}, RVs K H σ ds vs fp → KpO fp H H' → RVs K H' σ ds vs fp
  | _, _, _, .nil, _ => .nil
  | _, _, _, .cons h r, o => .cons (h.keep k fun a ha => o a (List.mem_append_left _ ha)) (r.keep k fun a ha => o a (List.mem_append_right _ ha))
theorem RVs.there : ∀ {ds vs fp}, RVs K H σ ds vs fp → ∀ a ∈ fp, ∃ o, H a = some o
  | _, _, _, .nil, _, ha => by cases ha
  | _, _, _, .cons h r, a, ha => by
    rcases List.mem_append.mp ha with ha | ha
    · exact h.there a ha
    · exact r.there a ha
theorem RVs.append : ∀ {ds vs f1 es ws f2}, RVs K H σ ds vs f1 → RVs K H σ es ws f2 → RVs K H σ (ds ++ es) (vs ++ ws) (f1 ++ f2)
  | _, _, _, _, _, _, .nil, s => s
  | _, _, _, _, _, _, .cons h r, s => by
    rw [List.append_assoc]
    exact .cons h (r.append s)
theorem RVs.one {d v fp} (h : RV K H σ d v fp) : RVs K H σ [d] [v] fp := by
  have := RVs.cons h (.nil (K := K) (H := H) (σ := σ))
  rwa [List.append_nil] at this
theorem RVs.one_of {d v fp} (h : RVs K H σ [d] [v] fp) : RV K H σ d v fp := by
  cases h with
  | cons h r =>
    cases r
    rwa [List.append_nil]
theorem RVs.length : ∀ {ds vs fp}, RVs K H σ ds vs fp → ds.length = vs.length
  | _, _, _, .nil => rfl
  | _, _, _, .cons _ r => congrArg (· + 1) r.length
end
theorem RL.there' {K : PySem.W.Frag} {H : Hp} {loc σ fp} (r : RL K H loc σ fp) : ∀ a ∈ fp, ∃ o, H a = some o := fun a ha => let ⟨o, e, _⟩ := r.there a ha; ⟨o, e⟩

/-- where one stands within an expression: the values so far, the slots; f0, H0: the expression's beginning -/
def Now (K : PySem.W.Frag) (σ : L2.St) (f0 : List Addr) (H0 : Hp) (ts : List D) (tv : List V) (loc : Loc) (H : Hp) : Prop :=
  ∃ ft fp, RVs K H σ ts tv ft ∧ RL K H loc σ fp ∧ (ft ++ fp).Nodup ∧ Tr f0 H0 (ft ++ fp) H

def PostE (K : PySem.W.Frag) (W : WX) (σ : L2.St) (f0 : List Addr) (H0 : Hp) (ts : List D) (tv : List V) (Q : VK) : Res D → Prop
  | .ok d loc => ∀ v H, Now K σ f0 H0 (ts ++ [d]) (tv ++ [v]) loc H → Q v H
  | .exc x loc => ∀ cls dd H, Now K σ f0 H0 [] [] loc H → RX K H x cls dd → W cls dd σ H
  | .bad => False
def PostA (K : PySem.W.Frag) (W : WX) (σ : L2.St) (f0 : List Addr) (H0 : Hp) (ts : List D) (tv : List V) (Q : List V → Hp → Prop) : Res (List D) → Prop
  | .ok ds loc => ∀ vs H, Now K σ f0 H0 (ts ++ ds) (tv ++ vs) loc H → Q vs H
  | .exc x loc => ∀ cls dd H, Now K σ f0 H0 [] [] loc H → RX K H x cls dd → W cls dd σ H
  | .bad => False
def PostT (K : PySem.W.Frag) (W : WX) (σ : L2.St) (f0 : List Addr) (H0 : Hp) (ts : List D) (tv : List V) (Q : Bool → Hp → Prop) : Res Bool → Prop
  | .ok b loc => ∀ H, Now K σ f0 H0 ts tv loc H → Q b H
  | .exc x loc => ∀ cls dd H, Now K σ f0 H0 [] [] loc H → RX K H x cls dd → W cls dd σ H
  | .bad => False
def tE (K : PySem.W.Frag) (W : WX) (m : M D) : TE := fun σ H Q => ∃ loc fp, RL K H loc σ fp ∧ fp.Nodup ∧ PostE K W σ fp H [] [] Q (m loc)
def tA (K : PySem.W.Frag) (W : WX) (m : M (List D)) : TA := fun σ H Q => ∃ loc fp, RL K H loc σ fp ∧ fp.Nodup ∧ PostA K W σ fp H [] [] Q (m loc)
def tT (K : PySem.W.Frag) (W : WX) (m : M Bool) : TT := fun σ H Q => ∃ loc fp, RL K H loc σ fp ∧ fp.Nodup ∧ PostT K W σ fp H [] [] Q (m loc)

section
variable {K : PySem.W.Frag} {W : WX} {σ : L2.St} {f0 : List Addr} {H0 H1 : Hp} {ts : List D} {tv : List V} {loc : Loc}
/-- on from a place: what was had is carried over -/
theorem Now.on (N : Now K σ f0 H0 ts tv loc H1) : ∃ fp, RL K H1 loc σ fp ∧ fp.Nodup ∧ ∀ ds vs loc2 H2, Now K σ fp H1 ds vs loc2 H2 → Now K σ f0 H0 (ts ++ ds) (tv ++ vs) loc2 H2 := by
  obtain ⟨ft, fp, hv, hl, nd, tr⟩ := N
  obtain ⟨nd1, nd2, nd3⟩ := List.nodup_append.mp nd
  refine ⟨fp, hl, nd2, fun ds vs loc2 H2 ⟨ft2, fp2, hv2, hl2, n2, tr2⟩ => ?_⟩
  have ap : ∀ a ∈ ft, a ∉ fp := fun a ha hb => nd3 a ha a hb rfl
  have st := tr2.still (g := ft) hv.there ap
  refine ⟨ft ++ ft2, fp2, (hv.keep tr2.kp (tr2.apart hv.there ap)).append hv2, hl2, ?_, ?_⟩
  · rw [List.append_assoc]
    exact List.nodup_append.mpr ⟨nd1, n2, fun a ha b hb e => st a ha (e ▸ hb)⟩
  · rw [List.append_assoc]
    refine ⟨fun a o h hn => ?_, tr.kp.trans tr2.kp, fun a ha => ?_⟩
    · refine tr2.fr a o (tr.fr a o h hn) fun hm => ?_
      rcases tr.new a (List.mem_append_right _ hm) with z | z
      · exact hn z
      · rw [h] at z
        cases z
    · rcases List.mem_append.mp ha with ha | ha
      · exact tr.new a (List.mem_append_left _ ha)
      · exact (tr.less (f2 := fp) fun x hx => List.mem_append_right _ hx).trans tr2 |>.new a ha
theorem Now.none_of (N : Now K σ f0 H0 ts tv loc H1) : Now K σ f0 H0 [] [] loc H1 := by
  obtain ⟨ft, fp, hv, hl, nd, tr⟩ := N
  exact ⟨[], fp, .nil, hl, (List.nodup_append.mp nd).2.1, tr.less fun x hx => List.mem_append_right _ hx⟩
theorem Now.exc (N : Now K σ f0 H0 ts tv loc H1) {fp : List Addr} (h : ∀ ds vs loc2 H2, Now K σ fp H1 ds vs loc2 H2 → Now K σ f0 H0 (ts ++ ds) (tv ++ vs) loc2 H2) {loc2 : Loc} {H2 : Hp} (n : Now K σ fp H1 [] [] loc2 H2) : Now K σ f0 H0 [] [] loc2 H2 := (h _ _ _ _ n).none_of
theorem seqE {m : M D} {Q : VK} (N : Now K σ f0 H0 ts tv loc H1) (h : PostE K W σ f0 H0 ts tv Q (m loc)) : tE K W m σ H1 Q := by
  obtain ⟨fp, hl, nd, c⟩ := N.on
  refine ⟨loc, fp, hl, nd, ?_⟩
  generalize m loc = r at h ⊢
  cases r with
  | ok d l => exact fun v H n => h v H (c _ _ _ _ n)
  | exc x l => exact fun cls dd H n hx => h cls dd H (N.exc c n) hx
  | bad => exact h
theorem seqA {m : M (List D)} {Q : List V → Hp → Prop} (N : Now K σ f0 H0 ts tv loc H1) (h : PostA K W σ f0 H0 ts tv Q (m loc)) : tA K W m σ H1 Q := by
  obtain ⟨fp, hl, nd, c⟩ := N.on
  refine ⟨loc, fp, hl, nd, ?_⟩
  generalize m loc = r at h ⊢
  cases r with
  | ok d l => exact fun v H n => h v H (c _ _ _ _ n)
  | exc x l => exact fun cls dd H n hx => h cls dd H (N.exc c n) hx
  | bad => exact h
theorem seqT {m : M Bool} {Q : Bool → Hp → Prop} (N : Now K σ f0 H0 ts tv loc H1) (h : PostT K W σ f0 H0 ts tv Q (m loc)) : tT K W m σ H1 Q := by
  obtain ⟨fp, hl, nd, c⟩ := N.on
  refine ⟨loc, fp, hl, nd, ?_⟩
  generalize m loc = r at h ⊢
  cases r with
  | ok b l =>
    exact fun H n => h H (by
      have z := c _ _ _ _ n
      rwa [List.append_nil, List.append_nil] at z)
  | exc x l => exact fun cls dd H n hx => h cls dd H (N.exc c n) hx
  | bad => exact h
theorem now0 {fp : List Addr} {H : Hp} (hl : RL K H loc σ fp) (nd : fp.Nodup) : Now K σ fp H [] [] loc H := ⟨[], fp, .nil, hl, nd, .refl _ _⟩
end

/-! ### weaker readings -/
section
variable {X : Cx}
theorem PEi {e : Expr} {t t' : TE} (p : PE X e t) (h : ∀ σ H Q, t' σ H Q → t σ H Q) : PE X e t' := ⟨fun pins s σ H Q I q => p.run pins s σ H Q I (h σ H Q q)⟩
theorem PTi {e : Expr} {t t' : TT} (p : PT X e t) (h : ∀ σ H Q, t' σ H Q → t σ H Q) : PT X e t' := ⟨fun pins s σ H Q I q => p.run pins s σ H Q I (h σ H Q q)⟩
theorem PAi {e : List Expr} {t t' : TA} (p : PA X e t) (h : ∀ σ H Q, t' σ H Q → t σ H Q) : PA X e t' := ⟨fun pos pins s σ H Q I q => p.run pos pins s σ H Q I (h σ H Q q)⟩
theorem PSi {e : Stmt} {t t' : TS} (p : PS X e t) (h : ∀ σ H D, t' D σ H → t D σ H) : PS X e t' := ⟨fun pins s σ H D I q => p.run pins s σ H D I (h σ H D q)⟩
theorem PSsi {e : List Stmt} {t t' : TS} (p : PSs X e t) (h : ∀ σ H D, t' D σ H → t D σ H) : PSs X e t' := ⟨fun pins s σ H D I q => p.run pins s σ H D I (h σ H D q)⟩
end

/-! ### what operations read -/
inductive RR (K : PySem.W.Frag) (H : Hp) : D → V → Prop
  | imm {d v} : RI K H d v → RR K H d v
  | lst {a vs ds} : SqL K H a vs → RIs K H ds vs → RR K H (.lst ds) (.ref a)
  | dic {a kvs ls} : Rd H a (.dK kvs) → RKs K H ls kvs → RR K H (.dic ls) (.ref a)
inductive RRs (K : PySem.W.Frag) (H : Hp) : List D → List V → Prop
  | nil : RRs K H [] []
  | cons {d v ds vs} : RR K H d v → RRs K H ds vs → RRs K H (d :: ds) (v :: vs)
/-- a value as an operation takes it -/
def view (loc : Loc) : D → Option D
  | .own l => some (.lst l)
  | .odi l => some (.dic l)
  | .brw i => match loc[i]? with
    | some (some (.own l)) => some (.lst l)
    | some (some (.odi l)) => some (.dic l)
    | _ => none
  | .obj _ _ => none
  | d => some d
def viewL (loc : Loc) : List D → Option (List D)
  | [] => some []
  | d :: ds => match view loc d, viewL loc ds with
    | some x, some xs => some (x :: xs)
    | _, _ => none
section
variable {K : PySem.W.Frag} {H H' : Hp} {σ : L2.St} {loc : Loc} {fp : List Addr}
theorem RO.rr {d d' v f} (h : RO K H d v f) (e : view loc d = some d') (nb : ∀ i, d ≠ .brw i) : RR K H d' v := by
  cases h with
  | imm h =>
    cases h with
    | non => cases e; exact .imm .non
    | bl b => cases e; exact .imm (.bl b)
    | int i => cases e; exact .imm (.int i)
    | str l => cases e; exact .imm (.str l)
    | ty l => cases e; exact .imm (.ty l)
    | cls l => cases e; exact .imm (.cls l)
    | tup h r => cases e; exact .imm (.tup h r)
    | lst h r => cases e; exact .imm (.lst h r)
    | dic h r => cases e; exact .imm (.dic h r)
  | own h r => cases e; exact .lst (SqL.of h) r
  | odi h r => cases e; exact .dic (.inl h) r
  | obj h r => cases e
theorem RV.rr {d d' v f} (hl : RL K H loc σ fp) (h : RV K H σ d v f) (e : view loc d = some d') : RR K H d' v := by
  rcases h with h | ⟨i, e1, e2, e3⟩
  · cases h with
    | imm h => exact (RO.imm h).rr e (by intro i z; subst z; cases h)
    | own h r => exact (RO.own h r).rr e (by intro i z; cases z)
    | odi h r => exact (RO.odi h r).rr e (by intro i z; cases z)
    | obj h r => exact (RO.obj h r).rr e (by intro i z; cases z)
  · subst e1
    change (match loc[i]? with | some (some (.own l)) => some (D.lst l) | some (some (.odi l)) => some (.dic l) | _ => none) = some d' at e
    split at e
    · rename_i l hl'
      cases e
      obtain ⟨w, f1, f2, z1, z2, _⟩ := hl.take hl'
      rw [e2] at z1
      cases z1
      cases z2 with
      | imm h => cases h
      | own h r => exact .lst (SqL.of h) r
    · rename_i l hl'
      cases e
      obtain ⟨w, f1, f2, z1, z2, _⟩ := hl.take hl'
      rw [e2] at z1
      cases z1
      cases z2 with
      | imm h => cases h
      | odi h r => exact .dic (.inl h) r
    · cases e
theorem RVs.rrs (hl : RL K H loc σ fp) : ∀ {ds ds' vs f}, RVs K H σ ds vs f → viewL loc ds = some ds' → RRs K H ds' vs
  | _, _, _, _, .nil, e => by cases e; exact .nil
  | _, _, _, _, .cons h r, e => by
    unfold viewL at e
    split at e
    · rename_i x xs e1 e2
      cases e
      exact .cons (h.rr hl e1) (r.rrs hl e2)
    · cases e
end
/-- a new thing -/
def New (K : PySem.W.Frag) (H H' : Hp) (d : D) (v : V) (fd : List Addr) : Prop := RO K H' d v fd ∧ Ext H H' ∧ (∀ a ∈ fd, H a = none) ∧ fd.Nodup
/-- an operation by values does what g says of data -/
def OpM (K : PySem.W.Frag) (r : List V → Hp → VK → Prop) (g : List D → Option D) : Prop :=
  ∀ (H : Hp) (ds : List D) (vs : List V) (d : D) (Q : VK), RRs K H ds vs → g ds = some d → (∀ v H' fd, New K H H' d v fd → Q v H') → r vs H Q
theorem New.imm {K : PySem.W.Frag} {H : Hp} {d : D} {v : V} (h : RI K H d v) : New K H H d v [] := ⟨.imm h, .refl H, (fun a ha => by cases ha), List.nodup_nil⟩
theorem New.lst {K : PySem.W.Frag} {H : Hp} {ds : List D} {vs : List V} {p : Addr} (h : RIs K H ds vs) (hp : H p = none) : New K H (upd H p (.lst vs)) (.own ds) (.ref p) [p] :=
  ⟨.own upd_same (h.keep (Ext.new hp).kp), .new hp, (fun a ha => by rw [List.mem_singleton.mp ha]; exact hp), by simp⟩
theorem New.tup {K : PySem.W.Frag} {H : Hp} {ds : List D} {vs : List V} {p : Addr} (h : RIs K H ds vs) (hp : H p = none) : New K H (upd H p (.tup vs)) (.tup ds) (.ref p) [] :=
  ⟨.imm (.tup (SqT.of upd_same) (h.keep (Ext.new hp).kp)), .new hp, (fun a ha => by cases ha), List.nodup_nil⟩
section
variable {K : PySem.W.Frag} {W : WX} {σ : L2.St} {f0 : List Addr} {H0 H : Hp} {ts ds ds' : List D} {tv vs : List V} {loc : Loc}
theorem Now.fresh {d : D} {v : V} {fd : List Addr} {H' : Hp} (N : Now K σ f0 H0 ds vs loc H) (n : New K H H' d v fd) : Now K σ f0 H0 [d] [v] loc H' := by
  obtain ⟨ft, fp, hv, hl, nd, tr⟩ := N
  obtain ⟨ho, ex, hn, n2⟩ := n
  obtain ⟨_, nd2, _⟩ := List.nodup_append.mp nd
  have ap : ∀ a ∈ fd, a ∉ fp := fun a ha hb => by
    obtain ⟨o, e⟩ := hl.there' a hb
    rw [hn a ha] at e
    cases e
  refine ⟨fd, fp, .one (.inl ho), hl.keep ex.kp (ex.kpO hl.there'), List.nodup_append.mpr ⟨n2, nd2, fun a ha b hb e => ap a ha (e ▸ hb)⟩, ?_⟩
  exact (tr.less (f2 := fp) fun x hx => List.mem_append_right _ hx).trans (ex.tr hn)
theorem Now.op {r : List V → Hp → VK → Prop} {g : List D → Option D} {d : D} {Q : VK} (hg : OpM K r g) (N : Now K σ f0 H0 ds vs loc H) (hv : viewL loc ds = some ds') (he : g ds' = some d) (q : ∀ v H', Now K σ f0 H0 [d] [v] loc H' → Q v H') : r vs H Q := by
  obtain ⟨ft, fp, h1, h2, h3, h4⟩ := id N
  exact hg H ds' vs d Q (h1.rrs h2 hv) he fun v H' fd n => q v H' (N.fresh n)
end

/-! ### functions -/
def mNil : M (List D) := fun l => .ok [] l
def mCons (m : M D) (ms : M (List D)) : M (List D) := fun l => match m l with
  | .ok d l1 => (match ms l1 with
    | .ok ds l2 => .ok (d :: ds) l2
    | .exc x l2 => .exc x l2
    | .bad => .bad)
  | .exc x l1 => .exc x l1
  | .bad => .bad
/-- an operation on the values of some expressions -/
def mOp (g : List D → Option D) (ms : M (List D)) : M D := fun l => match ms l with
  | .ok ds l1 => (match (viewL l1 ds).bind g with
    | some d => .ok d l1
    | none => .bad)
  | .exc x l1 => .exc x l1
  | .bad => .bad
def mC (d : D) : M D := fun l => .ok d l
def isImm : D → Bool
  | .own _ => false
  | .obj _ _ => false
  | .odi _ => false
  | .brw _ => false
  | _ => true
def mVar (i : Nat) : M D := fun l => match l[i]? with
  | some (some d) => if isImm d then .ok d l else .ok (.brw i) l
  | _ => .bad
/-- a list, a dict that was made is fixed (its name, if it has one, holds it fixed from now on) -/
def mFrz (m : M D) : M D := fun l => match m l with
  | .ok (.own ds) l1 => .ok (.lst ds) l1
  | .ok (.odi ds) l1 => .ok (.dic ds) l1
  | .ok (.brw i) l1 => (match l1[i]? with
    | some (some (.own ds)) => .ok (.lst ds) (l1.set i (some (.lst ds)))
    | some (some (.odi ds)) => .ok (.dic ds) (l1.set i (some (.dic ds)))
    | _ => .bad)
  | r => r
/-- a name's thing is taken out of the name -/
def mMov (m : M D) : M D := fun l => match m l with
  | .ok (.brw i) l1 => (match l1[i]? with
    | some (some d) => .ok d (l1.set i none)
    | _ => .bad)
  | r => r
def mIf (t : M Bool) (a b : M D) : M D := fun l => match t l with
  | .ok true l1 => a l1
  | .ok false l1 => b l1
  | .exc x l1 => .exc x l1
  | .bad => .bad
/-- a bool's value as a test -/
def mTest (m : M D) : M Bool := fun l => match m l with
  | .ok (.bl b) l1 => .ok b l1
  | .ok _ _ => .bad
  | .exc x l1 => .exc x l1
  | .bad => .bad
def gTru : D → Option Bool
  | .non => some false
  | .bl b => some b
  | .int i => some (i != 0)
  | .str l => if l.length ≤ 16777216 then some (!l.isEmpty) else none
  | .tup l => some (!l.isEmpty)
  | .lst l => some (!l.isEmpty)
  | .dic _ => none
  | _ => none
def mTru (m : M D) : M Bool := fun l => match m l with
  | .ok d l1 => (match (view l1 d).bind gTru with
    | some b => .ok b l1
    | none => .bad)
  | .exc x l1 => .exc x l1
  | .bad => .bad
def mAnd (a b : M Bool) : M Bool := fun l => match a l with
  | .ok true l1 => b l1
  | r => r
def mOr (a b : M Bool) : M Bool := fun l => match a l with
  | .ok false l1 => b l1
  | r => r
def mNot (a : M Bool) : M Bool := fun l => match a l with
  | .ok b l1 => .ok (!b) l1
  | r => r
/-- .. as values: the left one a bool -/
def mAndV (a b : M D) : M D := fun l => match a l with
  | .ok (.bl true) l1 => b l1
  | .ok (.bl false) l1 => .ok (.bl false) l1
  | .ok _ _ => .bad
  | r => r
def mOrV (a b : M D) : M D := fun l => match a l with
  | .ok (.bl false) l1 => b l1
  | .ok (.bl true) l1 => .ok (.bl true) l1
  | .ok _ _ => .bad
  | r => r
def mNotV (a : M D) : M D := fun l => match a l with
  | .ok (.bl b) l1 => .ok (.bl (!b)) l1
  | .ok _ _ => .bad
  | r => r

section
variable {X : Cx} {W : WX} {a b c e : Expr} {es : List Expr} {ma mb : M D} {ms : M (List D)} {mt mu : M Bool} {pos : Pos}
/-- from a reading's beginning -/
theorem tE_in {K : PySem.W.Frag} {m : M D} {σ H Q} (h : tE K W m σ H Q) : ∃ loc fp, Now K σ fp H [] [] loc H ∧ PostE K W σ fp H [] [] Q (m loc) := by
  obtain ⟨loc, fp, hl, nd, p⟩ := h
  exact ⟨loc, fp, now0 hl nd, p⟩
theorem tA_in {K : PySem.W.Frag} {m : M (List D)} {σ H Q} (h : tA K W m σ H Q) : ∃ loc fp, Now K σ fp H [] [] loc H ∧ PostA K W σ fp H [] [] Q (m loc) := by
  obtain ⟨loc, fp, hl, nd, p⟩ := h
  exact ⟨loc, fp, now0 hl nd, p⟩
theorem tT_in {K : PySem.W.Frag} {m : M Bool} {σ H Q} (h : tT K W m σ H Q) : ∃ loc fp, Now K σ fp H [] [] loc H ∧ PostT K W σ fp H [] [] Q (m loc) := by
  obtain ⟨loc, fp, hl, nd, p⟩ := h
  exact ⟨loc, fp, now0 hl nd, p⟩
theorem am_nil : PA X [] (tA X.K W mNil) := PAi pa_nil fun σ H Q h => by
  obtain ⟨loc, fp, N, p⟩ := tA_in h
  exact p [] H N
theorem am_cons (ha : PE X e (tE X.K W ma)) (hr : PA X es (tA X.K W ms)) (hs : starEach (e :: es) X.env = (false, eval e X.env) :: starEach es X.env := by rfl) : PA X (e :: es) (tA X.K W (mCons ma ms)) :=
  PAi (pa_cons ha hr hs) fun σ H Q h => by
    obtain ⟨loc, fp, N, p⟩ := tA_in h
    refine seqE N ?_
    unfold mCons at p
    generalize ma loc = r at p
    cases r with
    | ok d l =>
      intro v H1 n1
      refine seqA n1 ?_
      dsimp only at p
      generalize ms l = r2 at p
      cases r2 with
      | ok ds l2 => exact fun vs H2 n2 => p (v :: vs) H2 n2
      | exc x l2 => exact p
      | bad => exact p
    | exc x l => exact p
    | bad => exact p
theorem em_c {d : D} {v : V} (h : PE X e (tC v)) (r : ∀ H, RI X.K H d v) : PE X e (tE X.K W (mC d)) := PEi h fun σ H Q h => by
  obtain ⟨loc, fp, N, p⟩ := tE_in h
  exact p v H (N.fresh (.imm (r H)))
theorem em_int {i : Int} {j} : PE X (.Constant (.int i) j pos) (tE X.K W (mC (.int i))) := em_c pe_int fun _ => .int i
theorem em_bl {i : Bool} {j} : PE X (.Constant (.bool i) j pos) (tE X.K W (mC (.bl i))) := em_c pe_bl fun _ => .bl i
theorem em_non {j} : PE X (.Constant .none j pos) (tE X.K W (mC .non)) := em_c pe_non fun _ => .non
theorem em_str {x : Str} {l : List Nat} {j} (hx : x = ⟨l.toArray⟩ := by first | rfl | decide +kernel) : PE X (.Constant (.str x) j pos) (tE X.K W (mC (.str l))) := by
  subst hx
  exact em_c pe_str fun _ => .str l
theorem em_glob {x : Str} {v : V} {d : D} {u : Value} (hg : Gl X x) (hm : X.mg x = some u) (r : RelV v u) (h : ∀ H, RI X.K H d v) (hd : (x == ("__debug__" : Str)) = false := by decide) : PE X (.Name x pos) (tE X.K W (mC d)) := em_c (pe_glob hg hm r hd) h
theorem em_var {i : Nat} {x : Str} (h : PE X (.Name x pos) (tVar i)) : PE X (.Name x pos) (tE X.K W (mVar i)) := PEi h fun σ H Q h => by
  obtain ⟨loc, fp, hl, nd, p⟩ := h
  unfold mVar at p
  split at p
  · rename_i d e
    obtain ⟨v, f1, f2, h1, h2, h3, h4⟩ := hl.take e
    refine ⟨v, h1, ?_⟩
    have N := now0 hl nd
    by_cases hi : isImm d = true
    · rw [if_pos hi] at p
      refine p v H (N.fresh (.imm ?_))
      cases h2 with
      | imm h => exact h
      | own h r => cases hi
      | odi h r => cases hi
      | obj h r => cases hi
    · rw [if_neg hi] at p
      obtain ⟨ft, fp', z1, z2, z3, z4⟩ := N
      cases z1
      exact p v H ⟨[], fp', .one (.inr ⟨i, rfl, h1, rfl⟩), z2, z3, z4⟩
  · exact p.elim

/-! ### operations -/
abbrev r2l (r : R2) : List V → Hp → VK → Prop := fun vs H Q => ∃ x y, vs = [x, y] ∧ r x y H Q
abbrev r1l (r : V → Hp → VK → Prop) : List V → Hp → VK → Prop := fun vs H Q => ∃ x, vs = [x] ∧ r x H Q
theorem op2_in {r : R2} {g : List D → Option D} (hg : OpM X.K (r2l r) g) {σ H Q} (h : tE X.K W (mOp g (mCons ma (mCons mb mNil))) σ H Q) : tOp r (tE X.K W ma) (tE X.K W mb) σ H Q := by
  obtain ⟨loc, fp, N, p⟩ := tE_in h
  refine seqE N ?_
  unfold mOp mCons mNil at p
  dsimp only at p
  generalize ma loc = ra at p
  cases ra with
  | ok d l =>
    intro x H1 n1
    refine seqE n1 ?_
    dsimp only at p
    generalize mb l = rb at p
    cases rb with
    | ok d2 l2 =>
      intro y H2 n2
      dsimp only at p
      split at p
      · rename_i z hz
        obtain ⟨ds', e1, e2⟩ := Option.bind_eq_some_iff.mp hz
        have n3 : Now X.K σ fp H [d, d2] [x, y] l2 H2 := n2
        obtain ⟨x', y', e, q⟩ := n3.op hg e1 e2 (fun v H' n => p v H' n)
        cases e
        exact q
      · exact p.elim
    | exc x l2 => exact p
    | bad => exact p
  | exc x l => exact p
  | bad => exact p
theorem em_op {op : Operator} {r : R2} {g : List D → Option D} (ho : OpR X (binaryOp op) r) (hg : OpM X.K (r2l r) g) (ha : PE X a (tE X.K W ma)) (hb : PE X b (tE X.K W mb)) : PE X (.BinOp a op b pos) (tE X.K W (mOp g (mCons ma (mCons mb mNil)))) :=
  PEi (pe_op ho ha hb) fun _ _ _ h => op2_in hg h
theorem em_cmp {op : CmpOp} {r : R2} {g : List D → Option D} (ho : OpR X (compareOp op) r) (hg : OpM X.K (r2l r) g) (ha : PE X a (tE X.K W ma)) (hb : PE X b (tE X.K W mb)) (hm : behindInMarks op b = false) : PE X (.Compare a [op] [b] pos) (tE X.K W (mOp g (mCons ma (mCons mb mNil)))) :=
  PEi (pe_cmpR ho ha hb hm) fun _ _ _ h => op2_in hg h
theorem em_ix {r : R2} {g : List D → Option D} (ho : IxR X r) (hg : OpM X.K (r2l r) g) (ha : PE X a (tE X.K W ma)) (hb : PE X b (tE X.K W mb)) (hs : PlainIx b) : PE X (.Subscript a b pos) (tE X.K W (mOp g (mCons ma (mCons mb mNil)))) :=
  PEi (pe_ix ho ha hb hs) fun _ _ _ h => op2_in hg h
/-- a value, tested -/
theorem test_in {te : TE} {m : M D} (h : ∀ σ H Q, tE X.K W m σ H Q → te σ H Q) {σ H Q} (q : tT X.K W (mTest m) σ H Q) : tTest te σ H Q := by
  obtain ⟨loc, fp, hl, nd, p⟩ := q
  refine h σ H _ ⟨loc, fp, hl, nd, ?_⟩
  unfold mTest at p
  generalize m loc = r at p ⊢
  cases r with
  | ok d l =>
    intro v H1 n1
    cases d with
    | bl b =>
      have n2 := n1
      obtain ⟨ft, fp', z1, _⟩ := n1
      rcases z1.one_of with z | ⟨i, e, _⟩
      · cases z with
        | imm z =>
          cases z
          exact ⟨b, rfl, p H1 n2.none_of⟩
      · cases e
    | _ => exact p.elim
  | exc x l => exact p
  | bad => exact p
theorem tm_cmp {op : CmpOp} {r : R2} {g : List D → Option D} (ho : OpR X (compareOp op) r) (hg : OpM X.K (r2l r) g) (ha : PE X a (tE X.K W ma)) (hb : PE X b (tE X.K W mb)) (hm : behindInMarks op b = false) : PT X (.Compare a [op] [b] pos) (tT X.K W (mTest (mOp g (mCons ma (mCons mb mNil))))) :=
  PTi (pt_cmpR ho ha hb hm) fun _ _ _ h => test_in (fun _ _ _ z => op2_in hg z) h
theorem tru_of {K : PySem.W.Frag} {H : Hp} {d : D} {v : V} {b : Bool} (h : RR K H d v) (e : gTru d = some b) : TruV K v H b := by
  have nil_iff : ∀ {ds vs}, RIs K H ds vs → (!ds.isEmpty) = !vs.isEmpty := fun r => by cases r <;> rfl
  cases h with
  | imm h =>
    cases h with
    | non => cases e; exact rfl
    | bl b => cases e; exact rfl
    | int i => cases e; exact rfl
    | str l =>
      change (if l.length ≤ 16777216 then some (!l.isEmpty) else none) = some b at e
      by_cases hl : l.length ≤ 16777216
      · rw [if_pos hl] at e
        cases e
        refine ⟨by rw [sizeLine_eq]; simpa [Str.length] using hl, ?_⟩
        cases l with
        | nil => rfl
        | cons c r =>
          show true = (((c :: r).toArray.size : Int) != 0)
          have h1 : (((c :: r).toArray.size : Nat) : Int) ≠ 0 := by
            rw [List.size_toArray, List.length_cons]
            omega
          exact (bne_iff_ne.mpr h1).symm
      · rw [if_neg hl] at e
        cases e
    | ty l => cases e
    | cls l => cases e
    | tup h r => cases e; exact .inr (.inl ⟨_, h, nil_iff r⟩)
    | lst h r => cases e; exact .inl ⟨_, h.sq, nil_iff r⟩
    | dic h r => cases e
  | lst h r => cases e; exact .inl ⟨_, h, nil_iff r⟩
  | dic h r => cases e
theorem tm_tru (ha : PE X a (tE X.K W ma)) (he : ∀ whole, isTrue a X.env whole = (do let v ← whole; standAt a.pos; holding [v] (truthy v)) := by intro _; rfl) : PT X a (tT X.K W (mTru ma)) :=
  PTi (pt_truth ha he) fun σ H Q q => by
    obtain ⟨loc, fp, N, p⟩ := tT_in q
    refine seqE N ?_
    unfold mTru at p
    generalize ma loc = r at p ⊢
    cases r with
    | ok d l =>
      intro v H1 n1
      dsimp only at p
      split at p
      · rename_i k hk
        obtain ⟨d', e1, e2⟩ := Option.bind_eq_some_iff.mp hk
        have n2 := n1
        obtain ⟨ft, fp', z1, z2, _⟩ := n1
        exact ⟨k, tru_of (z1.one_of.rr z2 e1) e2, p H1 n2.none_of⟩
      · exact p.elim
    | exc x l => exact p
    | bad => exact p
theorem and_in {t u : TT} {σ H Q} (ht : ∀ Q, tT X.K W mt σ H Q → t σ H Q) (hu : ∀ H Q, tT X.K W mu σ H Q → u σ H Q) (h : tT X.K W (mAnd mt mu) σ H Q) : tAnd t u σ H Q := by
  obtain ⟨loc, fp, hl, nd, p⟩ := h
  refine ht _ ⟨loc, fp, hl, nd, ?_⟩
  unfold mAnd at p
  generalize mt loc = r at p ⊢
  cases r with
  | ok b l =>
    cases b with
    | true => exact fun H1 n1 => hu H1 _ (seqT n1 p)
    | false => exact fun H1 n1 => p H1 n1
  | exc x l => exact p
  | bad => exact p
theorem or_in {t u : TT} {σ H Q} (ht : ∀ Q, tT X.K W mt σ H Q → t σ H Q) (hu : ∀ H Q, tT X.K W mu σ H Q → u σ H Q) (h : tT X.K W (mOr mt mu) σ H Q) : tOr t u σ H Q := by
  obtain ⟨loc, fp, hl, nd, p⟩ := h
  refine ht _ ⟨loc, fp, hl, nd, ?_⟩
  unfold mOr at p
  generalize mt loc = r at p ⊢
  cases r with
  | ok b l =>
    cases b with
    | true => exact fun H1 n1 => p H1 n1
    | false => exact fun H1 n1 => hu H1 _ (seqT n1 p)
  | exc x l => exact p
  | bad => exact p
theorem wm_and1 (ha : PT X a (tT X.K W mt)) : PW X (.BoolOp .And [a] pos) (tT X.K W mt) := pw_and1 ha
theorem wm_or1 (ha : PT X a (tT X.K W mt)) : PW X (.BoolOp .Or [a] pos) (tT X.K W mt) := pw_or1 ha
theorem PWi {e : Expr} {t t' : TT} (p : PW X e t) (h : ∀ σ H Q, t' σ H Q → t σ H Q) : PW X e t' := ⟨fun w pins s σ H Q I q => p.run w pins s σ H Q I (h σ H Q q)⟩
theorem wm_and {rest : List Expr} (ha : PT X a (tT X.K W mt)) (hb : PW X (.BoolOp .And (b :: rest) pos) (tT X.K W mu)) : PW X (.BoolOp .And (a :: b :: rest) pos) (tT X.K W (mAnd mt mu)) :=
  PWi (pw_and ha hb) fun _ _ _ h => and_in (fun _ z => z) (fun _ _ z => z) h
theorem wm_or {rest : List Expr} (ha : PT X a (tT X.K W mt)) (hb : PW X (.BoolOp .Or (b :: rest) pos) (tT X.K W mu)) : PW X (.BoolOp .Or (a :: b :: rest) pos) (tT X.K W (mOr mt mu)) :=
  PWi (pw_or ha hb) fun _ _ _ h => or_in (fun _ z => z) (fun _ _ z => z) h
theorem tm_w (h : PW X e (tT X.K W mt)) : PT X e (tT X.K W mt) := h.pt
theorem tm_not (ha : PT X a (tT X.K W mt)) : PT X (.UnaryOp .Not a pos) (tT X.K W (mNot mt)) := PTi (pt_not ha) fun σ H Q h => by
  obtain ⟨loc, fp, hl, nd, p⟩ := h
  refine ⟨loc, fp, hl, nd, ?_⟩
  unfold mNot at p
  generalize mt loc = r at p ⊢
  cases r with
  | ok b l => exact p
  | exc x l => exact p
  | bad => exact p
theorem bl_of {K : PySem.W.Frag} {σ f0 H0 loc H b v} (n : Now K σ f0 H0 [.bl b] [v] loc H) : v = .bl b := by
  obtain ⟨ft, fp', z1, _⟩ := n
  rcases z1.one_of with z | ⟨i, e, _⟩
  · cases z with
    | imm z => cases z; rfl
  · cases e
theorem em_one {op} (h : PE X a (tE X.K W ma)) : PE X (.BoolOp op [a] pos) (tE X.K W ma) := pe_one h
theorem em_and {rest : List Expr} (ha : PE X a (tE X.K W ma)) (hb : PE X (.BoolOp .And (b :: rest) pos) (tE X.K W mb)) : PE X (.BoolOp .And (a :: b :: rest) pos) (tE X.K W (mAndV ma mb)) :=
  PEi (pe_and ha hb) fun σ H Q h => by
    obtain ⟨loc, fp, N, p⟩ := tE_in h
    refine seqE N ?_
    unfold mAndV at p
    generalize ma loc = r at p ⊢
    cases r with
    | ok d l =>
      intro v H1 n1
      cases d with
      | bl b =>
        obtain rfl := bl_of n1
        refine ⟨b, rfl, ?_⟩
        cases b with
        | true =>
          rw [if_pos rfl]
          exact seqE n1.none_of p
        | false =>
          rw [if_neg Bool.false_ne_true]
          exact p _ H1 n1
      | _ => exact p.elim
    | exc x l => exact p
    | bad => exact p
theorem em_or {rest : List Expr} (ha : PE X a (tE X.K W ma)) (hb : PE X (.BoolOp .Or (b :: rest) pos) (tE X.K W mb)) : PE X (.BoolOp .Or (a :: b :: rest) pos) (tE X.K W (mOrV ma mb)) :=
  PEi (pe_or ha hb) fun σ H Q h => by
    obtain ⟨loc, fp, N, p⟩ := tE_in h
    refine seqE N ?_
    unfold mOrV at p
    generalize ma loc = r at p ⊢
    cases r with
    | ok d l =>
      intro v H1 n1
      cases d with
      | bl b =>
        obtain rfl := bl_of n1
        refine ⟨b, rfl, ?_⟩
        cases b with
        | true =>
          rw [if_pos rfl]
          exact p _ H1 n1
        | false =>
          rw [if_neg Bool.false_ne_true]
          exact seqE n1.none_of p
      | _ => exact p.elim
    | exc x l => exact p
    | bad => exact p
theorem em_not (ha : PE X a (tE X.K W ma)) : PE X (.UnaryOp .Not a pos) (tE X.K W (mNotV ma)) :=
  PEi (pe_not ha) fun σ H Q h => by
    obtain ⟨loc, fp, N, p⟩ := tE_in h
    refine seqE N ?_
    unfold mNotV at p
    generalize ma loc = r at p ⊢
    cases r with
    | ok d l =>
      intro v H1 n1
      cases d with
      | bl b =>
        obtain rfl := bl_of n1
        exact ⟨b, rfl, p _ H1 (n1.fresh (.imm (.bl _)))⟩
      | _ => exact p.elim
    | exc x l => exact p
    | bad => exact p
theorem em_if (hc : PT X c (tT X.K W mt)) (ha : PE X a (tE X.K W ma)) (hb : PE X b (tE X.K W mb)) : PE X (.IfExp c a b pos) (tE X.K W (mIf mt ma mb)) :=
  PEi (pe_ifExp hc ha hb) fun σ H Q h => by
    obtain ⟨loc, fp, N, p⟩ := tE_in h
    refine seqT N ?_
    unfold mIf at p
    generalize mt loc = r at p ⊢
    cases r with
    | ok k l =>
      intro H1 n1
      cases k with
      | true =>
        rw [if_pos rfl]
        exact seqE n1 p
      | false =>
        rw [if_neg Bool.false_ne_true]
        exact seqE n1 p
    | exc x l => exact p
    | bad => exact p

/-! ### fixing, taking -/
theorem pe_frz {t : TE} (h : PE X e t) : PE X e (fun σ H Q => t σ H fun v H' => (∃ a u, v = .ref a ∧ H' a = some u ∧ ((∃ xs, u = .lst xs) ∨ ∃ ks, u = .dK ks) ∧ ∀ o, Q v (upd H' a (.frz o u))) ∨ Q v H') := by
  refine ⟨fun pins s σ H Q I q => ?_⟩
  refine thn (h.run pins s σ H _ I q) fun v s1 ⟨x, H1, I1, r1, q1⟩ => ?_
  rcases q1 with ⟨a, u, e1, e2, e3, q1⟩ | q1
  · subst e1
    have ok := I1.hok a u e2
    obtain ⟨o, ho⟩ := objOk_get ok
    have mu : Mut (H1 a) := by
      rw [e2]
      rcases e3 with ⟨xs, e3⟩ | ⟨ks, e3⟩ <;> subst e3 <;> exact True.intro
    refine ⟨.ref a, _, I1.write (x := a) (e := a) (o := .frz o u) (h' := s1.heap) (t' := s1.toks) mu (.inl rfl) (fun b w _ z => z) ⟨o, ho⟩ ⟨ho, ?_⟩, r1, q1 o⟩
    rcases e3 with ⟨xs, e3⟩ | ⟨ks, e3⟩ <;> subst e3
    · exact ok
    · exact ok
  · exact ⟨x, H1, I1, r1, q1⟩
theorem kp_frz {H : Hp} {a : Addr} {u o} (e : H a = some u) (e3 : (∃ xs, u = .lst xs) ∨ ∃ ks, u = .dK ks) : Kp H (upd H a (.frz o u)) := by
  refine ⟨fun b vs h => ?_, fun b o' w h => ?_⟩
  · rw [upd_ne]
    · exact h
    · rintro rfl
      rw [h] at e
      cases e
      rcases e3 with ⟨xs, e3⟩ | ⟨ks, e3⟩ <;> cases e3
  · rw [upd_ne]
    · exact h
    · rintro rfl
      rw [h] at e
      cases e
      rcases e3 with ⟨xs, e3⟩ | ⟨ks, e3⟩ <;> cases e3
theorem Tr.frz {f0 f1 f2 : List Addr} {H0 H : Hp} {a : Addr} {u o} (t : Tr f0 H0 f1 H) (e : H a = some u) (e3 : (∃ xs, u = .lst xs) ∨ ∃ ks, u = .dK ks) (ha : a ∈ f1) (hs : ∀ x ∈ f2, x ∈ f1) : Tr f0 H0 f2 (upd H a (.frz o u)) :=
  t.trans ⟨fun b w h hn => by
    rw [upd_ne]
    · exact h
    · rintro rfl
      exact hn ha, kp_frz e e3, fun b hb => .inl (hs b hb)⟩
abbrev FzQ (Q : VK) : VK := fun v H' => (∃ a u, v = .ref a ∧ H' a = some u ∧ ((∃ xs, u = .lst xs) ∨ ∃ ks, u = .dK ks) ∧ ∀ o, Q v (upd H' a (.frz o u))) ∨ Q v H'
section
variable {K : PySem.W.Frag} {σ : L2.St} {f0 : List Addr} {H0 H1 : Hp} {l1 : Loc} {a : Addr} {u : HO} {d : D} {fq f1 : List Addr}
theorem fz_temp (e1 : H1 a = some u) (e2 : (∃ xs, u = .lst xs) ∨ ∃ ks, u = .dK ks) (o : Obj) (hr : RI K (upd H1 a (.frz o u)) d (.ref a)) (hl : RL K H1 l1 σ fq) (nd : ([a] ++ fq).Nodup) (tr : Tr f0 H0 ([a] ++ fq) H1) :
    Now K σ f0 H0 [d] [.ref a] l1 (upd H1 a (.frz o u)) := by
  obtain ⟨_, n2, n3⟩ := List.nodup_append.mp nd
  have na : a ∉ fq := fun hm => n3 a List.mem_cons_self a hm rfl
  refine ⟨[], fq, .one (.inl (.imm hr)), hl.keep (kp_frz e1 e2) (fun b hb => by rw [upd_ne]; rintro rfl; exact na hb), n2, ?_⟩
  exact tr.frz e1 e2 List.mem_cons_self fun x hx => List.mem_cons_of_mem _ hx
theorem fz_slot {i : Nat} {d0 : D} (e1 : H1 a = some u) (e2 : (∃ xs, u = .lst xs) ∨ ∃ ks, u = .dK ks) (o : Obj) (hr : RI K (upd H1 a (.frz o u)) d (.ref a)) (he : l1[i]? = some (some d0)) (es : σ[i]? = some (some (.ref a)))
    (y3 : RL K H1 (l1.set i none) σ f1) (y4 : fq.Perm ([a] ++ f1)) (nd : fq.Nodup) (tr : Tr f0 H0 fq H1) : Now K σ f0 H0 [d] [.ref a] (l1.set i (some d)) (upd H1 a (.frz o u)) := by
  have nd' := (y4.nodup_iff).mp nd
  obtain ⟨_, m2, m3⟩ := List.nodup_append.mp nd'
  have na : a ∉ f1 := fun hm => m3 a List.mem_cons_self a hm rfl
  have hl' := y3.keep (kp_frz (o := o) e1 e2) (fun b hb => by rw [upd_ne]; rintro rfl; exact na hb)
  obtain ⟨fp', u1, u2⟩ := RL.turn he es hl' (.imm hr)
  refine ⟨[], fp', .one (.inl (.imm hr)), u1, (u2.nodup_iff).mpr m2, ?_⟩
  exact tr.frz e1 e2 (y4.mem_iff.mpr List.mem_cons_self) fun x hx => y4.mem_iff.mpr (List.mem_append_right _ (u2.mem_iff.mp hx))
theorem ri_fzl {a : Addr} {vs ds} (hh : H1 a = some (.lst vs)) (rr : RIs K H1 ds vs) (o : Obj) : RI K (upd H1 a (.frz o (.lst vs))) (.lst ds) (.ref a) := .lst (.inl ⟨o, upd_same⟩) (rr.keep (kp_frz hh (.inl ⟨_, rfl⟩)))
theorem ri_fzd {a : Addr} {vs ds} (hh : H1 a = some (.dK vs)) (rr : RKs K H1 ds vs) (o : Obj) : RI K (upd H1 a (.frz o (.dK vs))) (.dic ds) (.ref a) := .dic upd_same (rr.keep (kp_frz hh (.inr ⟨_, rfl⟩)))
theorem own_of {l : List D} {v : V} {f : List Addr} (h : RO K H1 (.own l) v f) : ∃ a vs, v = .ref a ∧ f = [a] ∧ H1 a = some (.lst vs) ∧ RIs K H1 l vs := by
  cases h with
  | imm z => cases z
  | own h r => exact ⟨_, _, rfl, rfl, h, r⟩
theorem odi_of {l : List (D × D)} {v : V} {f : List Addr} (h : RO K H1 (.odi l) v f) : ∃ a vs, v = .ref a ∧ f = [a] ∧ H1 a = some (.dK vs) ∧ RKs K H1 l vs := by
  cases h with
  | imm z => cases z
  | odi h r => exact ⟨_, _, rfl, rfl, h, r⟩
theorem obj_of {C : Addr} {l : List (Str × D)} {v : V} {f : List Addr} (h : RO K H1 (.obj C l) v f) : ∃ a dx fvs f1, v = .ref a ∧ f = a :: f1 ∧ H1 a = some (.ins C dx fvs) ∧ ROf K H1 l fvs f1 := by
  cases h with
  | imm z => cases z
  | obj h r => exact ⟨_, _, _, _, rfl, rfl, h, r⟩
theorem brw_of {i : Nat} {v : V} {f : List Addr} (h : RV K H1 σ (.brw i) v f) : σ[i]? = some (some v) ∧ f = [] := by
  rcases h with z | ⟨j, e, es, ef⟩
  · cases z with
    | imm z => cases z
  · cases e
    exact ⟨es, ef⟩
theorem rv_ro {d : D} {v : V} {f : List Addr} (h : RV K H1 σ d v f) (n : ∀ i, d ≠ .brw i) : RO K H1 d v f := by
  rcases h with z | ⟨j, e, es, ef⟩
  · exact z
  · exact absurd e (n j)
theorem frz_post {r : Res D} {W : WX} {Q : VK} (p : PostE K W σ f0 H0 [] [] Q (match r with
  | .ok (.own ds) l1 => .ok (.lst ds) l1
  | .ok (.odi ds) l1 => .ok (.dic ds) l1
  | .ok (.brw i) l1 => (match l1[i]? with
    | some (some (.own ds)) => .ok (.lst ds) (l1.set i (some (.lst ds)))
    | some (some (.odi ds)) => .ok (.dic ds) (l1.set i (some (.dic ds)))
    | _ => .bad)
  | r => r)) : PostE K W σ f0 H0 [] [] (FzQ Q) r := by
  cases r with
  | exc x l => exact p
  | bad => exact p
  | ok d l =>
    intro v H1 n1
    cases d with
    | own ds =>
      obtain ⟨ft, fq, z1, z2, z3, z4⟩ := n1
      obtain ⟨a, vs, rfl, rfl, hh, rr⟩ := own_of (rv_ro z1.one_of (by intro i e; cases e))
      exact .inl ⟨a, .lst vs, rfl, hh, .inl ⟨vs, rfl⟩, fun o => p _ _ (fz_temp hh (.inl ⟨vs, rfl⟩) o (ri_fzl hh rr o) z2 z3 z4)⟩
    | odi ds =>
      obtain ⟨ft, fq, z1, z2, z3, z4⟩ := n1
      obtain ⟨a, vs, rfl, rfl, hh, rr⟩ := odi_of (rv_ro z1.one_of (by intro i e; cases e))
      exact .inl ⟨a, .dK vs, rfl, hh, .inr ⟨vs, rfl⟩, fun o => p _ _ (fz_temp hh (.inr ⟨vs, rfl⟩) o (ri_fzd hh rr o) z2 z3 z4)⟩
    | brw i =>
      obtain ⟨ft, fq, z1, z2, z3, z4⟩ := n1
      obtain ⟨es, rfl⟩ := brw_of z1.one_of
      dsimp only at p
      split at p
      · rename_i ds he
        obtain ⟨w, f1, f2, y1, y2, y3, y4⟩ := z2.take he
        obtain rfl : v = w := by
          rw [es] at y1
          exact Option.some.inj (Option.some.inj y1)
        obtain ⟨a, vs, rfl, rfl, hh, rr⟩ := own_of y2
        exact .inl ⟨a, .lst vs, rfl, hh, .inl ⟨vs, rfl⟩, fun o => p _ _ (fz_slot hh (.inl ⟨vs, rfl⟩) o (ri_fzl hh rr o) he es y3 y4 z3 z4)⟩
      · rename_i ds he
        obtain ⟨w, f1, f2, y1, y2, y3, y4⟩ := z2.take he
        obtain rfl : v = w := by
          rw [es] at y1
          exact Option.some.inj (Option.some.inj y1)
        obtain ⟨a, vs, rfl, rfl, hh, rr⟩ := odi_of y2
        exact .inl ⟨a, .dK vs, rfl, hh, .inr ⟨vs, rfl⟩, fun o => p _ _ (fz_slot hh (.inr ⟨vs, rfl⟩) o (ri_fzd hh rr o) he es y3 y4 z3 z4)⟩
      · exact p.elim
    | non => exact .inr (p v H1 n1)
    | bl b => exact .inr (p v H1 n1)
    | int b => exact .inr (p v H1 n1)
    | str b => exact .inr (p v H1 n1)
    | ty b => exact .inr (p v H1 n1)
    | cls b => exact .inr (p v H1 n1)
    | tup b => exact .inr (p v H1 n1)
    | lst b => exact .inr (p v H1 n1)
    | dic b => exact .inr (p v H1 n1)
    | obj C b => exact .inr (p v H1 n1)
theorem mov_post {r : Res D} {W : WX} {Q : VK} (p : PostE K W σ f0 H0 [] [] Q (match r with
  | .ok (.brw i) l1 => (match l1[i]? with
    | some (some d) => .ok d (l1.set i none)
    | _ => .bad)
  | r => r)) : PostE K W σ f0 H0 [] [] Q r := by
  cases r with
  | exc x l => exact p
  | bad => exact p
  | ok d l =>
    intro v H1 n1
    cases d with
    | brw i =>
      obtain ⟨ft, fq, z1, z2, z3, z4⟩ := n1
      obtain ⟨es, rfl⟩ := brw_of z1.one_of
      dsimp only at p
      split at p
      · rename_i d he
        obtain ⟨w, f1, f2, y1, y2, y3, y4⟩ := z2.take he
        obtain rfl : v = w := by
          rw [es] at y1
          exact Option.some.inj (Option.some.inj y1)
        exact p _ _ ⟨f1, f2, .one (.inl y2), y3, (y4.nodup_iff).mp z3, z4.perm y4.symm⟩
      · exact p.elim
    | non => exact p v H1 n1
    | bl b => exact p v H1 n1
    | int b => exact p v H1 n1
    | str b => exact p v H1 n1
    | ty b => exact p v H1 n1
    | cls b => exact p v H1 n1
    | tup b => exact p v H1 n1
    | lst b => exact p v H1 n1
    | dic b => exact p v H1 n1
    | own b => exact p v H1 n1
    | odi b => exact p v H1 n1
    | obj C b => exact p v H1 n1
end
theorem em_frz (h : PE X e (tE X.K W ma)) : PE X e (tE X.K W (mFrz ma)) := PEi (pe_frz h) fun σ H Q q => by
  obtain ⟨loc, fp, hl, nd, p⟩ := q
  exact ⟨loc, fp, hl, nd, frz_post p⟩
theorem em_mov (h : PE X e (tE X.K W ma)) : PE X e (tE X.K W (mMov ma)) := PEi h fun σ H Q q => by
  obtain ⟨loc, fp, hl, nd, p⟩ := q
  exact ⟨loc, fp, hl, nd, mov_post p⟩
end
end FM

set_option maxHeartbeats 1000000
/-! FM3: what the operations do to data. -/
namespace FM
open PySem L2
section
variable {K : PySem.W.Frag} {H : Hp}
theorem rr_int {i : Int} {v : V} (h : RR K H (.int i) v) : v = .int i := by cases h with | imm h => cases h; rfl
theorem rr_bl {i : Bool} {v : V} (h : RR K H (.bl i) v) : v = .bl i := by cases h with | imm h => cases h; rfl
theorem rr_str {i : List Nat} {v : V} (h : RR K H (.str i) v) : v = .str ⟨i.toArray⟩ := by cases h with | imm h => cases h; rfl
theorem rr_non {v : V} (h : RR K H .non v) : v = .non := by cases h with | imm h => cases h; rfl
theorem rr_ty {n} {v : V} (h : RR K H (.ty n) v) : v = .ty n := by cases h with | imm h => cases h; rfl
theorem rr_tup {ds} {v : V} (h : RR K H (.tup ds) v) : ∃ a vs, v = .ref a ∧ SqT K H a vs ∧ RIs K H ds vs := by cases h with | imm h => cases h with | tup h r => exact ⟨_, _, rfl, h, r⟩
theorem rr_lst {ds} {v : V} (h : RR K H (.lst ds) v) : ∃ a vs, v = .ref a ∧ SqL K H a vs ∧ RIs K H ds vs := by
  cases h with
  | imm h => cases h with | lst h r => exact ⟨_, _, rfl, h.sq, r⟩
  | lst h r => exact ⟨_, _, rfl, h, r⟩
theorem rr_dic {ds} {v : V} (h : RR K H (.dic ds) v) : ∃ a vs, v = .ref a ∧ Rd H a (.dK vs) ∧ RKs K H ds vs := by
  cases h with
  | imm h => cases h with | dic h r => exact ⟨_, _, rfl, .inr ⟨_, h⟩, r⟩
  | dic h r => exact ⟨_, _, rfl, h, r⟩
theorem rrs1 {a : D} {vs} (h : RRs K H [a] vs) : ∃ x, vs = [x] ∧ RR K H a x := by cases h with | cons h r => cases r; exact ⟨_, rfl, h⟩
theorem rrs2 {a b : D} {vs} (h : RRs K H [a, b] vs) : ∃ x y, vs = [x, y] ∧ RR K H a x ∧ RR K H b y := by
  cases h with
  | cons h r =>
    cases r with
    | cons h2 r => cases r; exact ⟨_, _, rfl, h, h2⟩
end
/-! ### lists of a kind -/
def ints? : List D → Option (List Int)
  | [] => some []
  | .int i :: r => (ints? r).map (i :: ·)
  | _ :: _ => none
def strs? : List D → Option (List (List Nat))
  | [] => some []
  | .str i :: r => (strs? r).map (i :: ·)
  | _ :: _ => none
def bls? : List D → Option (List Bool)
  | [] => some []
  | .bl i :: r => (bls? r).map (i :: ·)
  | _ :: _ => none
theorem ints?_map : ∀ l : List Int, ints? (l.map D.int) = some l
  | [] => rfl
  | i :: r => by
    show (ints? (r.map D.int)).map (i :: ·) = _
    rw [ints?_map r]
    rfl
theorem strs?_map : ∀ l : List (List Nat), strs? (l.map D.str) = some l
  | [] => rfl
  | i :: r => by
    show (strs? (r.map D.str)).map (i :: ·) = _
    rw [strs?_map r]
    rfl
theorem bls?_map : ∀ l : List Bool, bls? (l.map D.bl) = some l
  | [] => rfl
  | i :: r => by
    show (bls? (r.map D.bl)).map (i :: ·) = _
    rw [bls?_map r]
    rfl
theorem ints?_some : ∀ {l : List D} {ns}, ints? l = some ns → l = ns.map D.int
  | [], _, h => by cases h; rfl
  | d :: r, ns, h => by
    cases d with
    | int i =>
      obtain ⟨ms, h1, h2⟩ := Option.map_eq_some_iff.mp (show (ints? r).map (i :: ·) = some ns from h)
      subst h2
      rw [ints?_some h1]
      rfl
    | _ => cases h
theorem strs?_some : ∀ {l : List D} {ns}, strs? l = some ns → l = ns.map D.str
  | [], _, h => by cases h; rfl
  | d :: r, ns, h => by
    cases d with
    | str i =>
      obtain ⟨ms, h1, h2⟩ := Option.map_eq_some_iff.mp (show (strs? r).map (i :: ·) = some ns from h)
      subst h2
      rw [strs?_some h1]
      rfl
    | _ => cases h
theorem bls?_some : ∀ {l : List D} {ns}, bls? l = some ns → l = ns.map D.bl
  | [], _, h => by cases h; rfl
  | d :: r, ns, h => by
    cases d with
    | bl i =>
      obtain ⟨ms, h1, h2⟩ := Option.map_eq_some_iff.mp (show (bls? r).map (i :: ·) = some ns from h)
      subst h2
      rw [bls?_some h1]
      rfl
    | _ => cases h
theorem ris_ints {K : PySem.W.Frag} {H : Hp} : ∀ {ns : List Int} {vs}, RIs K H (ns.map D.int) vs → vs = ns.map V.int
  | [], _, h => by cases h; rfl
  | i :: r, _, h => by
    cases h with
    | cons h1 h2 =>
      cases h1
      rw [ris_ints h2]
      rfl
theorem ris_bls {K : PySem.W.Frag} {H : Hp} : ∀ {ns : List Bool} {vs}, RIs K H (ns.map D.bl) vs → vs = ns.map V.bl
  | [], _, h => by cases h; rfl
  | i :: r, _, h => by
    cases h with
    | cons h1 h2 =>
      cases h1
      rw [ris_bls h2]
      rfl
abbrev mkS (l : List Nat) : Str := ⟨l.toArray⟩
theorem ris_strs {K : PySem.W.Frag} {H : Hp} : ∀ {ns : List (List Nat)} {vs}, RIs K H (ns.map D.str) vs → vs = (ns.map mkS).map V.str
  | [], _, h => by cases h; rfl
  | i :: r, _, h => by
    cases h with
    | cons h1 h2 =>
      cases h1
      rw [ris_strs h2]
      rfl
theorem of_ints {K : PySem.W.Frag} {H : Hp} : ∀ (ns : List Int), RIs K H (ns.map D.int) (ns.map V.int)
  | [] => .nil
  | i :: r => .cons (.int i) (of_ints r)
theorem of_strs {K : PySem.W.Frag} {H : Hp} : ∀ (ns : List (List Nat)), RIs K H (ns.map D.str) ((ns.map mkS).map V.str)
  | [] => .nil
  | i :: r => .cons (.str i) (of_strs r)
theorem mkS_len (l : List Nat) : (mkS l).length = l.length := by simp [Str.length]
theorem mkS_app (a b : List Nat) : mkS a ++ mkS b = mkS (a ++ b) := TL.ext_tl (by rw [TL.tl_append])
theorem mkS_tl (x : Str) : mkS (TL.tl x) = x := TL.mk_tl x

/-! ### + - * // % ** -/
section
variable {X : Cx}
def rCatS (K : PySem.W.Frag) : R2 := fun x y H Q => ∃ l b xs zs, x = .ref l ∧ y = .ref b ∧ SqL K H l xs ∧ SqL K H b zs ∧ xs.length + zs.length ≤ sizeLine ∧ ∀ p, H p = none → Q (.ref p) (upd H p (.lst (xs ++ zs)))
theorem op_catS : OpR X (binaryOp .Add) (rCatS X.K) := by
  intro pins s σ H x y v u Q I rx ry h
  obtain ⟨l, b, xs, zs, rfl, rfl, hH, hB, hz, q⟩ := h
  cases rx
  cases ry
  obtain ⟨its, r, pl, hl⟩ := I.list hH
  obtain ⟨its2, r2, pl2, hl2⟩ := I.list hB
  obtain ⟨⟨cls, dd, data, sl⟩, ho, hc, n, hd⟩ := pl.isList
  obtain ⟨⟨cls2, dd2, data2, sl2⟩, ho2, hc2, n2, hd2⟩ := pl2.isList
  simp only at hc hd hc2 hd2
  subst hc hd hc2 hd2
  have e : its.toArray ++ its2.toArray = (its ++ its2).toArray := by simp
  have hs : its.toArray.size + its2.toArray.size ≤ sizeLine := by
    rw [List.size_toArray, List.size_toArray, ← r.length, ← r2.length]
    exact hz
  refine PySem.concat_meets ⟨_, ho, rfl⟩ ⟨_, ho2, rfl⟩ noFill_list_add seq_list_add PySem.F.slot_list_add PySem.F.entry_list_add (PySem.F.args_list_add_2 _ _) (PyProof.Rows.list_addW l b its.toArray its2.toArray n n2 dd dd2 sl sl2 hs) ⟨ho, ho2, ?_⟩
  rw [e]
  exact ⟨.ref _, _, I.lnew (t' := s.toks) (r.append r2) (by rw [List.length_append]; exact hz), rfl, q _ I.fresh⟩
theorem list_mulW (l : Addr) (items : Array Value) (n : Nat) (dd : Option Addr) (sl : Array (Option Value)) (x : Int) (u : Tok) (hc0 : ¬(!Builtin.List.listFitsIndex x) = true) (hc1 : ¬items.size * x.toNat > (2 ^ 63 - 1) / 8) (hc2 : ¬Builtin.List.listTooLong (items.size * x.toNat) = true) :
    Meets (Builtin.«list.__mul__» ⟨[.ref l, .int x u], []⟩) (fun _ R s => s.heap.get? l = some { cls := .type "list", dict := dd, data := .seq items n, slots := sl } ∧
      R (.ok (.ret (Value.ref s.heap.objs.size))) { s with heap := s.heap.push { cls := Value.type "list", data := Data.seq (List.foldl (fun x1 x2 => x1 ++ x2) #[] (List.replicate (if items.isEmpty = true then 0 else x.toNat) items)) }, toks := s.toks }) :=
  .of_wp fun prog w A R s h => by
    obtain ⟨hp, g, d, tk, os⟩ := s
    obtain ⟨hl, h⟩ := h
    have hsz := AutoListH.joined_fits hc2
    wp_walk using wpAny_loadPart' hl
    refine wpAny_ite_false (decide_eq_false (Nat.not_lt.mpr hsz)) ?_
    wp_walk using wpAny_loadPart' hl
    exact ⟨_, rfl, h⟩
theorem int_rmul_list (a : Int) (t : Tok) (l : Addr) (items : Array Value) (n : Nat) (dd : Option Addr) (sl : Array (Option Value)) :
    Meets (Builtin.«int.__rmul__» ⟨[.int a t, .ref l], []⟩) (fun _ R s => s.heap.get? l = some { cls := .type "list", dict := dd, data := .seq items n, slots := sl } ∧ R (.ok (.ret Value.notImplemented)) s) :=
  .of_wp fun prog w A R s h => by obtain ⟨hp, g, d, tk, os⟩ := s; obtain ⟨hl, h⟩ := h; wp_walk using wpAny_loadPart' hl; exact ⟨_, rfl, h⟩
def rRepS (K : PySem.W.Frag) : R2 := fun x y H Q => ∃ l k xs, x = .ref l ∧ y = .int k ∧ SqL K H l xs ∧ -(2 ^ 63) ≤ k ∧ k < 2 ^ 63 ∧ xs.length * k.toNat ≤ sizeLine ∧
  ∀ p, H p = none → Q (.ref p) (upd H p (.lst (List.replicate k.toNat xs).flatten))
theorem op_repS : OpR X (binaryOp .Mult) (rRepS X.K) := by
  intro pins s σ H x y v u Q I rx ry h
  obtain ⟨l, k, xs, rfl, rfl, hH, h1, h2, hz, q⟩ := h
  cases rx
  obtain ⟨t, rfl⟩ := ry
  obtain ⟨its, r, pl, _⟩ := I.list hH
  obtain ⟨⟨cls, dd, data, sl⟩, ho, hc, n, hd⟩ := pl.isList
  simp only at hc hd
  subst hc hd
  have hl := r.length
  have hlen : its.toArray.size * k.toNat ≤ sizeLine := by rw [List.size_toArray, ← hl]; exact hz
  have hcap : ¬ its.toArray.size * k.toNat > (2 ^ 63 - 1) / 8 := by
    have : (sizeLine : Nat) ≤ (2 ^ 63 - 1) / 8 := by decide
    omega
  have hfit : ¬ (!Builtin.List.listFitsIndex k) = true := by
    rw [PySem.fitsIndex_both h1 h2]
    exact Bool.false_ne_true
  have hlong : ¬ Builtin.List.listTooLong (its.toArray.size * k.toNat) = true := by
    rw [notLongL hlen]
    exact Bool.false_ne_true
  have hnew : List.foldl (fun x1 x2 => x1 ++ x2) #[] (List.replicate (if its.toArray.isEmpty = true then 0 else k.toNat) its.toArray) = (List.replicate k.toNat its).flatten.toArray := by
    rw [size_rep]
    cases its with
    | nil => simp
    | cons a r' => rw [if_neg (by simp)]
  refine wpAny_binaryOp_repeat_ref (T := "list") (U := "int") (by decide) ⟨_, ho, rfl⟩ (fun s' => typeIs_int s' k t) noFill_list_mul F.fills_int_mul F.slot_int_rmul repeat_list F.slot_int_index.lookup
    (call_meets F.slot_int_rmul (typeIs_int s k t) F.entry_int_rmul (F.args_int_rmul_2 _ _) (int_rmul_list k t l its.toArray n dd sl)
      ⟨ho, rfl, ⟨_, ho, rfl⟩, call_meets F.slot_list_mul ⟨_, ho, rfl⟩ F.entry_list_mul (F.args_list_mul_2 _ _) (list_mulW l its.toArray n dd sl k t hfit hcap hlong) ⟨ho, ?_⟩⟩)
  rw [hnew]
  exact ⟨.ref _, _, I.lnew (t' := s.toks) (r.rep k.toNat) (by rw [PyProof.Rows.lm_len_rep_flat, Nat.mul_comm]; exact hz), rfl, q _ I.fresh⟩
theorem tuple_mulE (l : Addr) (items : Array Value) (n : Nat) (dd : Option Addr) (sl : Array (Option Value)) (x : Int) (u : Tok) (c0 : (decide (x < -(2 ^ 63)) || decide (x ≥ 2 ^ 63)) = false) (c1 : (items.isEmpty || x == 1) = true) :
    Meets (Builtin.«tuple.__mul__» ⟨[.ref l, .int x u], []⟩) (fun _ R s => s.heap.get? l = some { cls := .type "tuple", dict := dd, data := .seq items n, slots := sl } ∧
      R (.ok (.ret (Value.ref l))) s) :=
  .of_wp fun prog w A R s h => by
    obtain ⟨hp, g, d, tk, os⟩ := s
    obtain ⟨hl, h⟩ := h
    have f1 := AutoSeq1.idx_int
    wp_walk using wpAny_loadPart' hl
    repeat (first
      | (refine wpAny_ite_false (decide_eq_false (by rw [c0]; exact Bool.false_ne_true)) ?_; wp_walk using wpAny_loadPart' hl)
      | (refine wpAny_ite_true (decide_eq_true (by rw [c1])) ?_; wp_walk using wpAny_loadPart' hl))
    exact ⟨_, rfl, h⟩
/-- tuple * int -/
def rRepTA (K : PySem.W.Frag) : R2 := fun x y H Q => ∃ l k xs, x = .ref l ∧ y = .int k ∧ SqT K H l xs ∧ 1 ≤ k ∧ k ≤ 1000 ∧ xs.length ≤ 1000 ∧ (xs = [] ∨ k = 1 → Q (.ref l) H) ∧ (¬ (xs = [] ∨ k = 1) → ∀ p, H p = none → Q (.ref p) (upd H p (.tup (List.replicate k.toNat xs).flatten)))
theorem op_repTA : OpR X (binaryOp .Mult) (rRepTA X.K) := by
  intro pins s σ H x y v u Q I rx ry h
  obtain ⟨l, k, xs, rfl, rfl, hT, h1, h2, hz, q1, q2⟩ := h
  by_cases hc : xs = [] ∨ k = 1
  · cases rx
    obtain ⟨t, rfl⟩ := ry
    obtain ⟨its, r, ⟨⟨cls, dd, data, sl⟩, ho, hcl, n, hd⟩, hs⟩ := I.tuple hT
    simp only at hcl hd
    subst hcl hd
    have c0 : (decide (k < -(2 ^ 63)) || decide (k ≥ 2 ^ 63)) = false := by
      rw [decide_eq_false (by omega), decide_eq_false (by omega)] <;> rfl
    have c1 : (its.toArray.isEmpty || k == 1) = true := by
      rcases hc with e | e
      · subst e
        cases r
        rfl
      · subst e
        simp
    refine wpAny_binaryOp_repeat_ref (T := "tuple") (U := "int") (by decide) ⟨_, ho, rfl⟩ (fun s' => typeIs_int s' k t) noFill_tuple_mul F.fills_int_mul F.slot_int_rmul repeat_tuple F.slot_int_index.lookup
      (call_meets F.slot_int_rmul (typeIs_int s k t) F.entry_int_rmul (F.args_int_rmul_2 _ _) (int_rmul_tuple k t l its.toArray n dd sl)
        ⟨ho, rfl, ⟨_, ho, rfl⟩, call_meets F.slot_tuple_mul ⟨_, ho, rfl⟩ F.entry_tuple_mul (F.args_tuple_mul_2 _ _) (tuple_mulE l its.toArray n dd sl k t c0 c1) ⟨ho, ?_⟩⟩)
    exact ⟨.ref l, H, I, rfl, q1 hc⟩
  · exact op_repT pins s σ H _ _ v u Q I rx ry ⟨l, k, xs, rfl, rfl, hT, fun e => hc (.inl e), by omega, h2, hz, q2 hc⟩

def gAdd : List D → Option D
  | [.int i, .int j] => some (.int (i + j))
  | [.str a, .str b] => if a.length + b.length ≤ 16777216 then some (.str (a ++ b)) else none
  | [.tup a, .tup b] => if a.length + b.length ≤ 16777216 then some (.tup (a ++ b)) else none
  | [.lst a, .lst b] => if a.length + b.length ≤ 16777216 then some (.own (a ++ b)) else none
  | _ => none
def rAddAll (K : PySem.W.Frag) : R2 := fun x y H Q => rI0 (fun i j => .int (i + j)) x y H Q ∨ (fun x y H Q => ∃ i j, x = .str i ∧ y = .str j ∧ i.length + j.length ≤ sizeLine ∧ Q (.str (i ++ j)) H) x y H Q ∨ rCatA K x y H Q ∨ rCatS K x y H Q
theorem op_addAll : OpR X (binaryOp .Add) (rAddAll X.K) := by
  intro pins s σ H x y v u Q I rx ry h
  rcases h with h | h | h | h
  · exact op_add pins s σ H x y v u Q I rx ry h
  · exact op_add_str pins s σ H x y v u Q I rx ry h
  · exact op_catA pins s σ H x y v u Q I rx ry h
  · exact op_catS pins s σ H x y v u Q I rx ry h
theorem oaddAll {K : PySem.W.Frag} : OpM K (r2l (rAddAll K)) gAdd := by
  intro H ds vs d Q hr hg q
  unfold gAdd at hg
  split at hg
  · cases hg
    obtain ⟨x, y, rfl, hx, hy⟩ := rrs2 hr
    obtain rfl := rr_int hx
    obtain rfl := rr_int hy
    exact ⟨_, _, rfl, .inl ⟨_, _, rfl, rfl, q _ H [] (.imm (.int _))⟩⟩
  · rename_i a b
    obtain ⟨x, y, rfl, hx, hy⟩ := rrs2 hr
    obtain rfl := rr_str hx
    obtain rfl := rr_str hy
    by_cases hl : a.length + b.length ≤ 16777216
    · rw [if_pos hl] at hg
      cases hg
      refine ⟨_, _, rfl, .inr (.inl ⟨_, _, rfl, rfl, by rw [mkS_len, mkS_len, sizeLine_eq]; exact hl, ?_⟩)⟩
      rw [mkS_app]
      exact q _ H [] (.imm (.str _))
    · rw [if_neg hl] at hg
      cases hg
  · rename_i a b
    obtain ⟨x, y, rfl, hx, hy⟩ := rrs2 hr
    obtain ⟨p, vs, rfl, h1, h2⟩ := rr_tup hx
    obtain ⟨p2, vs2, rfl, h3, h4⟩ := rr_tup hy
    by_cases hl : a.length + b.length ≤ 16777216
    · rw [if_pos hl] at hg
      cases hg
      refine ⟨_, _, rfl, .inr (.inr (.inl ⟨_, _, _, _, rfl, rfl, h1, h3, by rw [← h2.length, ← h4.length, sizeLine_eq]; exact hl, fun e => ?_, fun _ e => ?_, fun _ _ p hp => ?_⟩))⟩
      · subst e
        cases h2
        exact q _ H [] (.imm (.tup h3 h4))
      · subst e
        cases h4
        rw [List.append_nil] at q
        exact q _ H [] (.imm (.tup h1 h2))
      · exact q _ _ [] (.tup (h2.append h4) hp)
    · rw [if_neg hl] at hg
      cases hg
  · rename_i a b
    obtain ⟨x, y, rfl, hx, hy⟩ := rrs2 hr
    obtain ⟨p, vs, rfl, h1, h2⟩ := rr_lst hx
    obtain ⟨p2, vs2, rfl, h3, h4⟩ := rr_lst hy
    by_cases hl : a.length + b.length ≤ 16777216
    · rw [if_pos hl] at hg
      cases hg
      exact ⟨_, _, rfl, .inr (.inr (.inr ⟨_, _, _, _, rfl, rfl, h1, h3, by rw [← h2.length, ← h4.length, sizeLine_eq]; exact hl, fun p hp => q _ _ [p] (.lst (h2.append h4) hp)⟩))⟩
    · rw [if_neg hl] at hg
      cases hg
  · cases hg
/-- two ints -/
def gI (C : Int → Int → Bool) (f : Int → Int → D) : List D → Option D
  | [.int i, .int j] => if C i j then some (f i j) else none
  | _ => none
theorem oI {K : PySem.W.Frag} {P : Int → Int → Prop} {C : Int → Int → Bool} {f : Int → Int → D} {fv : Int → Int → V} (hP : ∀ i j, C i j = true → P i j) (hf : ∀ H i j, RI K H (f i j) (fv i j)) : OpM K (r2l (rI P fv)) (gI C f) := by
  intro H ds vs d Q hr hg q
  unfold gI at hg
  split at hg
  · rename_i i j
    by_cases hc : C i j = true
    · rw [if_pos hc] at hg
      cases hg
      obtain ⟨x, y, rfl, hx, hy⟩ := rrs2 hr
      obtain rfl := rr_int hx
      obtain rfl := rr_int hy
      exact ⟨_, _, rfl, _, _, rfl, rfl, hP _ _ hc, q _ H [] (.imm (hf H i j))⟩
    · rw [if_neg hc] at hg
      cases hg
  · cases hg
def gI0 (f : Int → Int → D) : List D → Option D
  | [.int i, .int j] => some (f i j)
  | _ => none
theorem oI0 {K : PySem.W.Frag} {f : Int → Int → D} {fv : Int → Int → V} (hf : ∀ H i j, RI K H (f i j) (fv i j)) : OpM K (r2l (rI0 fv)) (gI0 f) := by
  intro H ds vs d Q hr hg q
  unfold gI0 at hg
  split at hg
  · cases hg
    obtain ⟨x, y, rfl, hx, hy⟩ := rrs2 hr
    obtain rfl := rr_int hx
    obtain rfl := rr_int hy
    exact ⟨_, _, rfl, _, _, rfl, rfl, q _ H [] (.imm (hf H _ _))⟩
  · cases hg
abbrev gSub : List D → Option D := gI0 fun i j => .int (i - j)
theorem osub {K : PySem.W.Frag} : OpM K (r2l (rI0 fun i j => .int (i - j))) gSub := oI0 fun _ _ _ => .int _
abbrev gFdiv : List D → Option D := gI (fun _ j => decide (0 < j ∧ j < 1073741824)) fun i j => .int (i / j)
theorem ofdiv {K : PySem.W.Frag} : OpM K (r2l (rI CDiv fun i j => .int (i / j))) gFdiv := oI (fun i j h => (of_decide_eq_true h : 0 < j ∧ j < 1073741824)) fun _ _ _ => .int _
abbrev gMod : List D → Option D := gI (fun _ j => decide (0 < j)) fun i j => .int (i % j)
theorem omod {K : PySem.W.Frag} : OpM K (r2l (rI (fun _ j => 0 < j) fun i j => .int (i % j))) gMod := oI (fun i j h => of_decide_eq_true h) fun _ _ _ => .int _
abbrev gPow : List D → Option D := gI (fun i j => decide (0 ≤ j ∧ j ≤ 1000000 ∧ i.natAbs < 2 ^ 64)) fun i j => .int (i ^ j.toNat)
theorem opow {K : PySem.W.Frag} : OpM K (r2l (rI CPow fun i j => .int (i ^ j.toNat))) gPow := oI (fun i j h => (of_decide_eq_true h : 0 ≤ j ∧ j ≤ 1000000 ∧ i.natAbs < 2 ^ 64)) fun _ _ _ => .int _
def gMul : List D → Option D
  | [.int i, .int j] => if (-(2 ^ 64) < i ∧ i < 2 ^ 64) ∨ (-(2 ^ 64) < j ∧ j < 2 ^ 64) then some (.int (i * j)) else none
  | [.lst a, .int k] => if -(2 ^ 63) ≤ k ∧ k < 2 ^ 63 ∧ a.length * k.toNat ≤ 16777216 then some (.own (List.replicate k.toNat a).flatten) else none
  | [.tup a, .int k] => if 1 ≤ k ∧ k ≤ 1000 ∧ a.length ≤ 1000 then some (.tup (List.replicate k.toNat a).flatten) else none
  | _ => none
def rMulAll (K : PySem.W.Frag) : R2 := fun x y H Q => rI CMul (fun i j => .int (i * j)) x y H Q ∨ rRepS K x y H Q ∨ rRepTA K x y H Q
theorem op_mulAll : OpR X (binaryOp .Mult) (rMulAll X.K) := by
  intro pins s σ H x y v u Q I rx ry h
  rcases h with h | h | h
  · exact op_mul pins s σ H x y v u Q I rx ry h
  · exact op_repS pins s σ H x y v u Q I rx ry h
  · exact op_repTA pins s σ H x y v u Q I rx ry h
theorem omulAll {K : PySem.W.Frag} : OpM K (r2l (rMulAll K)) gMul := by
  intro H ds vs d Q hr hg q
  unfold gMul at hg
  split at hg
  · obtain ⟨x, y, rfl, hx, hy⟩ := rrs2 hr
    obtain rfl := rr_int hx
    obtain rfl := rr_int hy
    split at hg
    · rename_i hl
      cases hg
      exact ⟨_, _, rfl, .inl ⟨_, _, rfl, rfl, hl, q _ H [] (.imm (.int _))⟩⟩
    · cases hg
  · obtain ⟨x, y, rfl, hx, hy⟩ := rrs2 hr
    obtain ⟨p, vs, rfl, h1, h2⟩ := rr_lst hx
    obtain rfl := rr_int hy
    split at hg
    · rename_i hl
      cases hg
      exact ⟨_, _, rfl, .inr (.inl ⟨_, _, _, rfl, rfl, h1, hl.1, hl.2.1, by rw [← h2.length, sizeLine_eq]; exact hl.2.2, fun p hp => q _ _ [p] (.lst (h2.rep _) hp)⟩)⟩
    · cases hg
  · obtain ⟨x, y, rfl, hx, hy⟩ := rrs2 hr
    obtain ⟨p, vs, rfl, h1, h2⟩ := rr_tup hx
    obtain rfl := rr_int hy
    split at hg
    · rename_i k hl
      cases hg
      refine ⟨_, _, rfl, .inr (.inr ⟨_, _, _, rfl, rfl, h1, hl.1, hl.2.1, by rw [← h2.length]; exact hl.2.2, fun e => ?_, fun _ p hp => q _ _ [] (.tup (h2.rep _) hp)⟩)⟩
      rcases e with e | e
      · subst e
        cases h2
        have z : (List.replicate k.toNat ([] : List D)).flatten = [] := by simp
        rw [z] at q
        exact q _ H [] (.imm (.tup h1 .nil))
      · subst e
        have z : ∀ l : List D, (List.replicate (1 : Int).toNat l).flatten = l := fun l => by simp
        rw [z] at q
        exact q _ H [] (.imm (.tup h1 h2))
    · cases hg
  · cases hg
def gNeg : List D → Option D
  | [.int i] => some (.int (-i))
  | _ => none
theorem oneg {K : PySem.W.Frag} : OpM K (r1l (rU fun i => .int (-i))) gNeg := by
  intro H ds vs d Q hr hg q
  unfold gNeg at hg
  split at hg
  · cases hg
    obtain ⟨x, rfl, hx⟩ := rrs1 hr
    obtain rfl := rr_int hx
    exact ⟨_, rfl, _, rfl, q _ H [] (.imm (.int _))⟩
  · cases hg
end
end FM

set_option maxHeartbeats 1000000
/-! FM4: comparisons, places, built-ins. -/
namespace FM
open PySem L2
/-! ### == -/
mutual
def deq : D → D → Bool
  | .non, .non => true
  | .bl a, .bl b => a == b
  | .bl a, .int j => (if a then 1 else 0) == j
  | .int i, .bl b => i == (if b then 1 else 0)
  | .int a, .int b => a == b
  | .str a, .str b => a == b
  | .tup a, .tup b => deqs a b
  | .lst a, .lst b => deqs a b
  | _, _ => false
def deqs : List D → List D → Bool
  | [], [] => true
  | a :: r, b :: s => deq a b && deqs r s
  | _, _ => false
end
mutual
def toPy : D → PyData
  | .bl b => .bool b
  | .int i => .int i
  | .str l => .str ⟨l.toArray⟩
  | .tup l => .tuple (toPys l)
  | .lst l => .list (toPys l)
  | _ => .none
def toPys : List D → List PyData
  | [] => []
  | d :: r => toPy d :: toPys r
end
/-- none, bools, ints, texts, tuples and lists of such, n deep at most -/
def pl : Nat → D → Bool
  | _, .non => true
  | _, .bl _ => true
  | _, .int _ => true
  | _, .str l => l.all (· < 0x110000)
  | n + 1, .tup l => l.all (pl n)
  | n + 1, .lst l => l.all (pl n)
  | _, _ => false
theorem toPys_map : ∀ l : List D, toPys l = l.map toPy
  | [] => by simp [toPys]
  | d :: r => by simp [toPys, toPys_map r]
theorem str_beq (a b : List Nat) : ((⟨a.toArray⟩ : Str) == (⟨b.toArray⟩ : Str)) = (a == b) := by
  rw [Bool.eq_iff_iff, beq_iff_eq, beq_iff_eq]
  constructor
  · intro h
    have := congrArg TL.tl h
    exact this
  · intro h
    rw [h]
mutual
theorem deq_py : ∀ (n : Nat) (a b : D), pl n a = true → pl n b = true → PyData.eqv (toPy a) (toPy b) = deq a b
  | n, a, b, ha, hb => by
    cases a <;> cases b <;> first
      | (simp only [toPy, deq, PyData.eqv]; done)
      | (simp only [toPy, deq, PyData.eqv, str_beq]; done)
      | (exfalso; revert ha; cases n <;> simp [pl]; done)
      | (exfalso; revert hb; cases n <;> simp [pl]; done)
      | skip
    · rename_i l m
      cases n with
      | zero => simp [pl] at ha
      | succ n =>
        simp only [toPy, deq, PyData.eqv]
        exact deqs_py n l m (by simpa [pl] using ha) (by simpa [pl] using hb)
    · rename_i l m
      cases n with
      | zero => simp [pl] at ha
      | succ n =>
        simp only [toPy, deq, PyData.eqv]
        exact deqs_py n l m (by simpa [pl] using ha) (by simpa [pl] using hb)
theorem deqs_py : ∀ (n : Nat) (a b : List D), (∀ x ∈ a, pl n x = true) → (∀ x ∈ b, pl n x = true) → PyData.eqvAll (toPys a) (toPys b) = deqs a b
  | n, [], [], _, _ => by simp [toPys, deqs, PyData.eqvAll]
  | n, [], _ :: _, _, _ => by simp [toPys, deqs, PyData.eqvAll]
  | n, _ :: _, [], _, _ => by simp [toPys, deqs, PyData.eqvAll]
  | n, a :: r, b :: s, ha, hb => by
    simp only [toPys, deqs, PyData.eqvAll]
    rw [deq_py n a b (ha a List.mem_cons_self) (hb b List.mem_cons_self), deqs_py n r s (fun x hx => ha x (List.mem_cons_of_mem _ hx)) (fun x hx => hb x (List.mem_cons_of_mem _ hx))]
end

theorem pl_lay : ∀ (n : Nat) (d : D), pl n d = true → (toPy d).canLay0 = true ∧ (toPy d).depth ≤ n
  | n, .non, _ => by simp [toPy, PyData.canLay0, PyData.depth]
  | n, .bl _, _ => by simp [toPy, PyData.canLay0, PyData.depth]
  | n, .int _, _ => by simp [toPy, PyData.canLay0, PyData.depth]
  | n, .str l, h => by
    have h : l.all (· < 0x110000) = true := by cases n <;> exact h
    simp only [toPy, PyData.canLay0, PyData.depth]
    refine ⟨?_, Nat.zero_le _⟩
    show Array.all _ _ = true
    rw [← Array.all_toList]
    exact h
  | 0, .tup l, h => by cases h
  | 0, .lst l, h => by cases h
  | n, .dic _, h => by cases n <;> cases h
  | n, .ty _, h => by cases n <;> cases h
  | n, .cls _, h => by cases n <;> cases h
  | n, .own _, h => by cases n <;> cases h
  | n, .obj _ _, h => by cases n <;> cases h
  | n, .odi _, h => by cases n <;> cases h
  | n, .brw _, h => by cases n <;> cases h
  | n + 1, .tup l, h => by
    have h : ∀ x ∈ l, pl n x = true := List.all_eq_true.mp h
    simp only [toPy, PyData.canLay0, PyData.depth]
    have : ∀ m : List D, (∀ x ∈ m, pl n x = true) → PyData.canLayAll0 (toPys m) = true ∧ PyData.depthAll (toPys m) ≤ n := by
      intro m
      induction m with
      | nil => exact fun _ => by simp [toPys, PyData.canLayAll0, PyData.depthAll]
      | cons a r ih =>
        intro hm
        obtain ⟨i1, i2⟩ := ih fun x hx => hm x (List.mem_cons_of_mem _ hx)
        obtain ⟨j1, j2⟩ := pl_lay n a (hm a List.mem_cons_self)
        simp only [toPys, PyData.canLayAll0, PyData.depthAll, j1, i1, Bool.and_self, true_and]
        omega
    obtain ⟨k1, k2⟩ := this l h
    exact ⟨k1, by omega⟩
  | n + 1, .lst l, h => by
    have h : ∀ x ∈ l, pl n x = true := List.all_eq_true.mp h
    simp only [toPy, PyData.canLay0, PyData.depth]
    have : ∀ m : List D, (∀ x ∈ m, pl n x = true) → PyData.canLayAll0 (toPys m) = true ∧ PyData.depthAll (toPys m) ≤ n := by
      intro m
      induction m with
      | nil => exact fun _ => by simp [toPys, PyData.canLayAll0, PyData.depthAll]
      | cons a r ih =>
        intro hm
        obtain ⟨i1, i2⟩ := ih fun x hx => hm x (List.mem_cons_of_mem _ hx)
        obtain ⟨j1, j2⟩ := pl_lay n a (hm a List.mem_cons_self)
        simp only [toPys, PyData.canLayAll0, PyData.depthAll, j1, i1, Bool.and_self, true_and]
        omega
    obtain ⟨k1, k2⟩ := this l h
    exact ⟨k1, by omega⟩
theorem pl_shaped {d : D} (h : pl 60 d = true) : SeqAt.shaped (toPy d) = true := by
  obtain ⟨h1, h2⟩ := pl_lay 60 d h
  unfold SeqAt.shaped
  rw [h1, decide_eq_true (by omega)]
  rfl
mutual
theorem ri_dp {K : PySem.W.Frag} {H : Hp} : ∀ {d v}, RI K H d v → ∀ n, pl n d = true → Dp K H v (toPy d)
  | _, _, .non, _, _ => by simp only [toPy]; exact .non
  | _, _, .bl b, _, _ => by simp only [toPy]; exact .bl b
  | _, _, .int b, _, _ => by simp only [toPy]; exact .int b
  | _, _, .str b, _, _ => by simp only [toPy]; exact .str _
  | _, _, .ty b, n, h => by cases n <;> cases h
  | _, _, .cls b, n, h => by cases n <;> cases h
  | _, _, .dic _ _, n, h => by cases n <;> cases h
  | _, _, .tup h1 h2, n, h => by
    cases n with
    | zero => cases h
    | succ n =>
      simp only [toPy]
      exact .tup h1 (ris_dp h2 n (List.all_eq_true.mp h))
  | _, _, .lst h1 h2, n, h => by
    cases n with
    | zero => cases h
    | succ n =>
      simp only [toPy]
      exact .lst h1.sq (ris_dp h2 n (List.all_eq_true.mp h))
theorem ris_dp {K : PySem.W.Frag} {H : Hp} : ∀ {ds vs}, RIs K H ds vs → ∀ n, (∀ x ∈ ds, pl n x = true) → DpAll K H vs (toPys ds)
  | _, _, .nil, _, _ => by simp only [toPys]; exact .nil
  | _, _, .cons h1 h2, n, h => by
    simp only [toPys]
    exact .cons (ri_dp h1 n (h _ List.mem_cons_self)) (ris_dp h2 n fun x hx => h x (List.mem_cons_of_mem _ hx))
end
theorem rr_dp {K : PySem.W.Frag} {H : Hp} {d v} (r : RR K H d v) {n} (h : pl n d = true) : Dp K H v (toPy d) := by
  cases r with
  | imm r => exact ri_dp r n h
  | lst h1 h2 =>
    cases n with
    | zero => cases h
    | succ n =>
      simp only [toPy]
      exact .lst h1 (ris_dp h2 n (List.all_eq_true.mp h))
  | dic h1 h2 => cases n <;> cases h
/-- two scalars that are told apart by what they are -/
def sc2 : D → D → Bool
  | .non, .non => true | .non, .int _ => true | .int _, .non => true | .non, .bl _ => true | .bl _, .non => true | .non, .str _ => true | .str _, .non => true
  | .int _, .int _ => true | .bl _, .bl _ => true | .str _, .str _ => true
  | .int _, .str _ => true | .str _, .int _ => true | .bl _, .str _ => true | .str _, .bl _ => true
  | _, _ => false
theorem dec_str' (a b : List Nat) : decide ((V.str ⟨a.toArray⟩ : V) = V.str ⟨b.toArray⟩) = (a == b) := by
  rw [← str_beq, Bool.eq_iff_iff, beq_iff_eq, decide_eq_true_eq]
  constructor
  · exact fun h => V.str.inj h
  · exact fun h => by rw [h]
theorem sc2_of {K : PySem.W.Frag} {H : Hp} {a b : D} {x y : V} (h : sc2 a b = true) (ha : RR K H a x) (hb : RR K H b y) : scal x y = true ∧ decide (x = y) = deq a b := by
  cases a <;> cases b <;> first
    | (cases h; done)
    | skip
  all_goals first
    | (obtain rfl := rr_non ha) | (obtain rfl := rr_int ha) | (obtain rfl := rr_bl ha) | (obtain rfl := rr_str ha)
  all_goals first
    | (obtain rfl := rr_non hb) | (obtain rfl := rr_int hb) | (obtain rfl := rr_bl hb) | (obtain rfl := rr_str hb)
  all_goals refine ⟨rfl, ?_⟩
  all_goals first
    | (simp [deq]; done)
    | (simp only [deq, dec_int]; done)
    | (simp only [deq, dec_bl]; done)
    | (simp only [deq, dec_str']; done)
def gEq : List D → Option D
  | [a, b] => if sc2 a b then some (.bl (deq a b)) else if pl 60 a && pl 60 b then some (.bl (deq a b)) else none
  | _ => none
def gNe : List D → Option D
  | [a, b] => if sc2 a b then some (.bl (!deq a b)) else if pl 60 a && pl 60 b then some (.bl (!deq a b)) else none
  | _ => none
def rEqA (K : PySem.W.Frag) : R2 := fun x y H Q => rEq x y H Q ∨ rEqD K x y H Q
def rNeA (K : PySem.W.Frag) : R2 := fun x y H Q => rNe x y H Q ∨ rNeD K x y H Q
section
variable {X : Cx} {K : PySem.W.Frag}
theorem op_eqA (hu : X.A.units + 64 < cLine) : OpR X (compareOp .Eq) (rEqA X.K) := by
  intro pins s σ H x y v u Q I rx ry h
  rcases h with h | h
  · exact op_eq pins s σ H x y v u Q I rx ry h
  · exact op_eqD hu pins s σ H x y v u Q I rx ry h
theorem op_neA (hu : X.A.units + 64 < cLine) : OpR X (compareOp .NotEq) (rNeA X.K) := by
  intro pins s σ H x y v u Q I rx ry h
  rcases h with h | h
  · exact op_ne pins s σ H x y v u Q I rx ry h
  · exact op_neD hu pins s σ H x y v u Q I rx ry h
theorem oeq : OpM K (r2l (rEqA K)) gEq := by
  intro H ds vs d Q hr hg q
  unfold gEq at hg
  split at hg
  · rename_i a b
    obtain ⟨x, y, rfl, hx, hy⟩ := rrs2 hr
    by_cases h1 : sc2 a b = true
    · rw [if_pos h1] at hg
      cases hg
      obtain ⟨e1, e2⟩ := sc2_of h1 hx hy
      exact ⟨_, _, rfl, .inl ⟨e1, by rw [e2]; exact q _ H [] (.imm (.bl _))⟩⟩
    · rw [if_neg h1] at hg
      by_cases h2 : (pl 60 a && pl 60 b) = true
      · rw [if_pos h2] at hg
        cases hg
        obtain ⟨p1, p2⟩ := Bool.and_eq_true_iff.mp h2
        exact ⟨_, _, rfl, .inr ⟨_, _, rr_dp hx p1, rr_dp hy p2, pl_shaped p1, pl_shaped p2, by rw [deq_py 60 a b p1 p2]; exact q _ H [] (.imm (.bl _))⟩⟩
      · rw [if_neg h2] at hg
        cases hg
  · cases hg
theorem one : OpM K (r2l (rNeA K)) gNe := by
  intro H ds vs d Q hr hg q
  unfold gNe at hg
  split at hg
  · rename_i a b
    obtain ⟨x, y, rfl, hx, hy⟩ := rrs2 hr
    by_cases h1 : sc2 a b = true
    · rw [if_pos h1] at hg
      cases hg
      obtain ⟨e1, e2⟩ := sc2_of h1 hx hy
      exact ⟨_, _, rfl, .inl ⟨e1, by rw [e2]; exact q _ H [] (.imm (.bl _))⟩⟩
    · rw [if_neg h1] at hg
      by_cases h2 : (pl 60 a && pl 60 b) = true
      · rw [if_pos h2] at hg
        cases hg
        obtain ⟨p1, p2⟩ := Bool.and_eq_true_iff.mp h2
        exact ⟨_, _, rfl, .inr ⟨_, _, rr_dp hx p1, rr_dp hy p2, pl_shaped p1, pl_shaped p2, by rw [deq_py 60 a b p1 p2]; exact q _ H [] (.imm (.bl _))⟩⟩
      · rw [if_neg h2] at hg
        cases hg
  · cases hg
abbrev gLt : List D → Option D := gI0 fun i j => .bl (decide (i < j))
theorem olt : OpM K (r2l (rI0 fun i j => .bl (decide (i < j)))) gLt := oI0 fun _ _ _ => .bl _
abbrev gLe : List D → Option D := gI0 fun i j => .bl (decide (i ≤ j))
theorem ole : OpM K (r2l (rI0 fun i j => .bl (decide (i ≤ j)))) gLe := oI0 fun _ _ _ => .bl _
abbrev gGt : List D → Option D := gI0 fun i j => .bl (decide (j < i))
theorem ogt : OpM K (r2l (rI0 fun i j => .bl (decide (j < i)))) gGt := oI0 fun _ _ _ => .bl _
abbrev gGe : List D → Option D := gI0 fun i j => .bl (decide (j ≤ i))
theorem oge : OpM K (r2l (rI0 fun i j => .bl (decide (j ≤ i)))) gGe := oI0 fun _ _ _ => .bl _
def isNon : D → Bool
  | .non => true
  | _ => false
theorem rr_isNon {H : Hp} {a : D} {x : V} (h : RR K H a x) : decide (x = .non) = isNon a := by
  cases h with
  | imm h => cases h <;> simp [isNon]
  | lst h1 h2 => simp [isNon]
  | dic h1 h2 => simp [isNon]
def gIsN : List D → Option D
  | [a, .non] => some (.bl (isNon a))
  | _ => none
def gNotN : List D → Option D
  | [a, .non] => some (.bl (!isNon a))
  | _ => none
theorem oisN : OpM K (r2l fun x y H Q => y = .non ∧ Q (.bl (decide (x = .non))) H) gIsN := by
  intro H ds vs d Q hr hg q
  unfold gIsN at hg
  split at hg
  · cases hg
    obtain ⟨x, y, rfl, hx, hy⟩ := rrs2 hr
    obtain rfl := rr_non hy
    exact ⟨_, _, rfl, rfl, by rw [rr_isNon hx]; exact q _ H [] (.imm (.bl _))⟩
  · cases hg
theorem onotN : OpM K (r2l fun x y H Q => y = .non ∧ Q (.bl (!decide (x = .non))) H) gNotN := by
  intro H ds vs d Q hr hg q
  unfold gNotN at hg
  split at hg
  · cases hg
    obtain ⟨x, y, rfl, hx, hy⟩ := rrs2 hr
    obtain rfl := rr_non hy
    exact ⟨_, _, rfl, rfl, by rw [rr_isNon hx]; exact q _ H [] (.imm (.bl _))⟩
  · cases hg
end
end FM

set_option maxHeartbeats 1000000
/-! FM5: in, places, slices, built-ins, methods of texts. -/
namespace FM
open PySem L2
/-! ### in -/
def flatD : D → Bool
  | .non => true | .bl _ => true | .int _ => true | .str _ => true
  | _ => false
def gIn : List D → Option D
  | [.str [c], .str z] => some (.bl (decide (c ∈ z)))
  | [x, .tup l] => if flatD x && l.all flatD then some (.bl (l.any fun y => deq y x)) else none
  | [x, .lst l] => if flatD x && l.all flatD then some (.bl (l.any fun y => deq y x)) else if pl 60 x && pl 60 (.lst l) then some (.bl (l.any fun y => deq y x)) else none
  | _ => none
def gNin (ds : List D) : Option D := (gIn ds).bind fun d => match d with
  | .bl b => some (.bl (!b))
  | _ => none
section
variable {X : Cx} {K : PySem.W.Frag} {H : Hp}
theorem ri_flat {d : D} {v : V} (h : RI K H d v) (f : flatD d = true) : flatV v = true := by
  cases h <;> first
    | rfl
    | (cases f; done)
theorem ris_flat : ∀ {ds vs}, RIs K H ds vs → ds.all flatD = true → vs.all flatV = true
  | _, _, .nil, _ => rfl
  | _, _, .cons h r, f => by
    rw [List.all_cons, Bool.and_eq_true_iff] at f
    rw [List.all_cons, ri_flat h f.1, ris_flat r f.2]
    rfl
theorem flat_eqV {a b : D} {x y : V} (ha : RI K H a x) (hb : RI K H b y) (fa : flatD a = true) (fb : flatD b = true) : eqV x y = deq a b := by
  cases ha <;> cases hb <;> first
    | (cases fa; done)
    | (cases fb; done)
    | (simp [eqV, deq, str_beq]; done)
    | skip
  all_goals (simp only [eqV, deq]; first | rfl | (rename_i b _ i; cases b <;> rfl) | (rename_i i _ b; cases b <;> rfl) | skip)
theorem any_flat {b : D} {y : V} (hb : RI K H b y) (fb : flatD b = true) : ∀ {ds vs}, RIs K H ds vs → ds.all flatD = true → inV y vs = ds.any fun x => deq x b
  | _, _, .nil, _ => rfl
  | _, _, .cons h r, f => by
    rw [List.all_cons, Bool.and_eq_true_iff] at f
    unfold inV
    rw [List.any_cons, List.any_cons, flat_eqV h hb f.1 fb]
    have := any_flat hb fb r f.2
    unfold inV at this
    rw [this]

def rInA (K : PySem.W.Frag) : R2 := fun x y H Q => (∃ (c : Nat) (z : Str), x = .str ⟨#[c]⟩ ∧ y = .str z ∧ Q (.bl (decide (c ∈ z.cps.toList))) H) ∨ rIn K false x y H Q ∨ rInD K x y H Q
def rNinA (K : PySem.W.Frag) : R2 := fun x y H Q => (∃ (c : Nat) (z : Str), x = .str ⟨#[c]⟩ ∧ y = .str z ∧ Q (.bl (!decide (c ∈ z.cps.toList))) H) ∨ rIn K true x y H Q ∨ rNotInD K x y H Q
theorem op_inA (hu : X.A.units + 65 < cLine) : OpR X (compareOp .In) (rInA X.K) := by
  intro pins s σ H x y v u Q I rx ry h
  rcases h with h | h | h
  · exact op_in_sign pins s σ H x y v u Q I rx ry h
  · exact op_in_seq pins s σ H x y v u Q I rx ry h
  · exact op_inD hu pins s σ H x y v u Q I rx ry h
theorem op_ninA (hu : X.A.units + 65 < cLine) : OpR X (compareOp .NotIn) (rNinA X.K) := by
  intro pins s σ H x y v u Q I rx ry h
  rcases h with h | h | h
  · exact op_notIn_sign pins s σ H x y v u Q I rx ry h
  · exact op_notIn_seq pins s σ H x y v u Q I rx ry h
  · exact op_notInD hu pins s σ H x y v u Q I rx ry h
theorem any_py {x : D} (hx : pl 60 x = true) : ∀ l : List D, (∀ y ∈ l, pl 60 y = true) → ((toPys l).any fun z => PyData.eqv z (toPy x)) = l.any fun y => deq y x
  | [], _ => by simp [toPys]
  | a :: r, h => by
    simp only [toPys, List.any_cons]
    rw [deq_py 60 a x (h a List.mem_cons_self) hx, any_py hx r fun y hy => h y (List.mem_cons_of_mem _ hy)]
theorem pl_mono : ∀ (n m : Nat) (d : D), n ≤ m → pl n d = true → pl m d = true
  | n, m, .non, _, _ => by cases m <;> rfl
  | n, m, .bl _, _, _ => by cases m <;> rfl
  | n, m, .int _, _, _ => by cases m <;> rfl
  | n, m, .str l, _, h => by cases n <;> cases m <;> exact h
  | 0, m, .tup l, _, h => by cases h
  | 0, m, .lst l, _, h => by cases h
  | n + 1, 0, _, h, _ => by omega
  | n + 1, m + 1, .tup l, h, p => List.all_eq_true.mpr fun x hx => pl_mono n m x (by omega) (List.all_eq_true.mp p x hx)
  | n + 1, m + 1, .lst l, h, p => List.all_eq_true.mpr fun x hx => pl_mono n m x (by omega) (List.all_eq_true.mp p x hx)
  | n, _, .dic _, _, h => by cases n <;> cases h
  | n, _, .ty _, _, h => by cases n <;> cases h
  | n, _, .cls _, _, h => by cases n <;> cases h
  | n, _, .own _, _, h => by cases n <;> cases h
  | n, _, .obj _ _, _, h => by cases n <;> cases h
  | n, _, .odi _, _, h => by cases n <;> cases h
  | n, _, .brw _, _, h => by cases n <;> cases h
theorem in_all {ds : List D} {vs : List V} {d : D} (hr : RRs K H ds vs) (hg : gIn ds = some d) : ∃ x y b, vs = [x, y] ∧ d = .bl b ∧ ((∃ (c : Nat) (z : Str), x = .str ⟨#[c]⟩ ∧ y = .str z ∧ b = decide (c ∈ z.cps.toList)) ∨
    (∃ p xs, y = .ref p ∧ (SqL K H p xs ∨ SqT K H p xs) ∧ flatV x = true ∧ xs.all flatV = true ∧ b = inV x xs) ∨
    (∃ e es, Dp K H x e ∧ Dp K H y (.list es) ∧ SeqAt.shaped e = true ∧ SeqAt.shaped (.list es) = true ∧ b = es.any fun z => PyData.eqv z e)) := by
  unfold gIn at hg
  split at hg
  · cases hg
    obtain ⟨x, y, rfl, hx, hy⟩ := rrs2 hr
    obtain rfl := rr_str hx
    obtain rfl := rr_str hy
    exact ⟨_, _, _, rfl, rfl, .inl ⟨_, _, rfl, rfl, rfl⟩⟩
  · obtain ⟨x, y, rfl, hx, hy⟩ := rrs2 hr
    split at hg
    · rename_i h
      cases hg
      obtain ⟨f1, f2⟩ := Bool.and_eq_true_iff.mp h
      obtain ⟨p, ws, rfl, h1, h2⟩ := rr_tup hy
      cases hx with
      | imm hx => exact ⟨_, _, _, rfl, rfl, .inr (.inl ⟨p, ws, rfl, .inr h1, ri_flat hx f1, ris_flat h2 f2, (any_flat hx f1 h2 f2).symm⟩)⟩
      | lst _ _ => cases f1
      | dic _ _ => cases f1
    · cases hg
  · obtain ⟨x, y, rfl, hx, hy⟩ := rrs2 hr
    split at hg
    · rename_i h
      cases hg
      obtain ⟨f1, f2⟩ := Bool.and_eq_true_iff.mp h
      obtain ⟨p, ws, rfl, h1, h2⟩ := rr_lst hy
      cases hx with
      | imm hx => exact ⟨_, _, _, rfl, rfl, .inr (.inl ⟨p, ws, rfl, .inl h1, ri_flat hx f1, ris_flat h2 f2, (any_flat hx f1 h2 f2).symm⟩)⟩
      | lst _ _ => cases f1
      | dic _ _ => cases f1
    · split at hg
      · rename_i l _ h
        cases hg
        obtain ⟨f1, f2⟩ := Bool.and_eq_true_iff.mp h
        have q1 := rr_dp hy f2
        have q2 := pl_shaped f2
        simp only [toPy] at q1 q2
        exact ⟨_, _, _, rfl, rfl, .inr (.inr ⟨_, _, rr_dp hx f1, q1, pl_shaped f1, q2, (any_py f1 l fun z hz => pl_mono 59 60 z (by omega) (List.all_eq_true.mp f2 z hz)).symm⟩)⟩
      · cases hg
  · cases hg
theorem oin : OpM K (r2l (rInA K)) gIn := by
  intro H ds vs d Q hr hg q
  obtain ⟨x, y, b, rfl, rfl, h⟩ := in_all hr hg
  have q := q (.bl b) H [] (.imm (.bl b))
  refine ⟨x, y, rfl, ?_⟩
  rcases h with ⟨c, z, rfl, rfl, rfl⟩ | ⟨p, xs, rfl, h1, h2, h3, rfl⟩ | ⟨e, es, h1, h2, h3, h4, rfl⟩
  · exact .inl ⟨c, z, rfl, rfl, q⟩
  · exact .inr (.inl ⟨p, xs, rfl, h1, h2, h3, q⟩)
  · exact .inr (.inr ⟨e, es, h1, h2, h3, h4, q⟩)
theorem onin : OpM K (r2l (rNinA K)) gNin := by
  intro H ds vs d Q hr hg q
  obtain ⟨d0, e1, e2⟩ := Option.bind_eq_some_iff.mp hg
  obtain ⟨x, y, b, rfl, rfl, h⟩ := in_all hr e1
  cases e2
  have q := q (.bl (!b)) H [] (.imm (.bl (!b)))
  refine ⟨x, y, rfl, ?_⟩
  rcases h with ⟨c, z, rfl, rfl, rfl⟩ | ⟨p, xs, rfl, h1, h2, h3, rfl⟩ | ⟨e, es, h1, h2, h3, h4, rfl⟩
  · exact .inl ⟨c, z, rfl, rfl, q⟩
  · exact .inr (.inl ⟨p, xs, rfl, h1, h2, h3, q⟩)
  · exact .inr (.inr ⟨e, es, h1, h2, h3, h4, q⟩)

/-! ### places -/
def gIx : List D → Option D
  | [.tup l, .int i] => atI l i
  | [.lst l, .int i] => atI l i
  | [.str l, .int i] => if l.length ≤ 16777216 then (atI l i).map fun c => .str [c] else none
  | _ => none
theorem atI_ri {ds : List D} {vs : List V} (r : RIs K H ds vs) {i : Int} {d : D} (e : atI ds i = some d) : ∃ v, atI vs i = some v ∧ RI K H d v := by
  unfold atI at e ⊢
  rw [r.length] at e
  obtain ⟨j, h1, h2⟩ := Option.bind_eq_some_iff.mp e
  rw [h1]
  obtain ⟨v, h3, h4⟩ := r.get h2
  exact ⟨v, h3, h4⟩
theorem oix : OpM K (r2l (rIx K)) gIx := by
  intro H ds vs d Q hr hg q
  unfold gIx at hg
  split at hg
  · obtain ⟨x, y, rfl, hx, hy⟩ := rrs2 hr
    obtain ⟨p, ws, rfl, h1, h2⟩ := rr_tup hx
    obtain rfl := rr_int hy
    obtain ⟨v, e1, e2⟩ := atI_ri h2 hg
    exact ⟨_, _, rfl, .inr (.inl ⟨p, ws, _, v, rfl, rfl, h1, e1, q _ H [] (.imm e2)⟩)⟩
  · obtain ⟨x, y, rfl, hx, hy⟩ := rrs2 hr
    obtain ⟨p, ws, rfl, h1, h2⟩ := rr_lst hx
    obtain rfl := rr_int hy
    obtain ⟨v, e1, e2⟩ := atI_ri h2 hg
    exact ⟨_, _, rfl, .inl ⟨p, ws, _, v, rfl, rfl, h1, e1, q _ H [] (.imm e2)⟩⟩
  · obtain ⟨x, y, rfl, hx, hy⟩ := rrs2 hr
    obtain rfl := rr_str hx
    obtain rfl := rr_int hy
    split at hg
    · rename_i hl
      obtain ⟨c, e1, rfl⟩ := Option.map_eq_some_iff.mp hg
      exact ⟨_, _, rfl, .inr (.inr ⟨_, _, c, rfl, rfl, by rw [mkS_len, sizeLine_eq]; exact hl, e1, q _ H [] (.imm (.str [c]))⟩)⟩
    · cases hg
  · cases hg

/-! ### slices -/
def cutD {α : Type} (xs : List α) (lo hi : Option Int) : List α := (xs.drop (HT.sIx xs.length 0 lo)).take (HT.sIx xs.length xs.length hi - HT.sIx xs.length 0 lo)
def gSl : List D → Option D
  | [.tup l, lo, hi] => match part? lo, part? hi with
    | some a, some b => some (.tup (cutD l a b))
    | _, _ => none
  | [.lst l, lo, hi] => match part? lo, part? hi with
    | some a, some b => some (.own (cutD l a b))
    | _, _ => none
  | [.str l, lo, hi] => match part? lo, part? hi with
    | some a, some b => if l.length ≤ 16777216 then some (.str (cutD l a b)) else none
    | _, _ => none
  | _ => none
where part? : D → Option (Option Int)
  | .non => some none
  | .int i => some (some i)
  | _ => none
def partV : V → Option Int
  | .int i => some i
  | _ => none
def rSlAll (K : PySem.W.Frag) : V → Option Int → Option Int → Hp → VK → Prop := fun x lo hi H Q => rSlA K x lo hi H Q ∨ rSlL K x lo hi H Q ∨ rSlS x lo hi H Q
theorem sl_all : SlR X (rSlAll X.K) := sl_tupA.or (sl_list.or sl_str)
theorem cut_ri {ds : List D} {vs : List V} (r : RIs K H ds vs) (lo hi : Option Int) : RIs K H (cutD ds lo hi) (cutV vs lo hi) := by
  unfold cutD cutV
  rw [r.length]
  exact (r.drop _).take _
theorem part_ok {H : Hp} {d : D} {v : V} {o : Option Int} (h : RR K H d v) (e : gSl.part? d = some o) : partV v = o := by
  unfold gSl.part? at e
  split at e
  · cases e
    rw [rr_non h]
    rfl
  · cases e
    rw [rr_int h]
    rfl
  · cases e
theorem cut_whole {α : Type} (l : List α) (a b : Option Int) (h : HT.sIx l.length 0 a = 0 ∧ HT.sIx l.length l.length b = l.length) : cutD l a b = l := by
  unfold cutD
  rw [h.1, h.2, List.drop_zero, Nat.sub_zero, List.take_length]
theorem osl : OpM K (fun vs H Q => ∃ x lo hi, vs = [x, lo, hi] ∧ rSlAll K x (partV lo) (partV hi) H Q) gSl := by
  intro H ds vs d Q hr hg q
  unfold gSl at hg
  split at hg
  · rename_i l lo hi
    cases hr with
    | cons hx hr =>
    cases hr with
    | cons h2 hr =>
    cases hr with
    | cons h3 hr =>
    cases hr
    split at hg
    · rename_i a b ea eb
      cases hg
      obtain ⟨p, ws, rfl, h4, h5⟩ := rr_tup hx
      refine ⟨_, _, _, rfl, .inl ⟨p, ws, rfl, h4, ?_⟩⟩
      rw [part_ok h2 ea, part_ok h3 eb]
      refine ⟨fun e => ?_, fun _ p hp => q _ _ [] (.tup (cut_ri h5 a b) hp)⟩
      rw [← h5.length] at e
      rw [cut_whole l a b e] at q
      exact q _ H [] (.imm (.tup h4 h5))
    · cases hg
  · rename_i l lo hi
    cases hr with
    | cons hx hr =>
    cases hr with
    | cons h2 hr =>
    cases hr with
    | cons h3 hr =>
    cases hr
    split at hg
    · rename_i a b ea eb
      cases hg
      obtain ⟨p, ws, rfl, h4, h5⟩ := rr_lst hx
      refine ⟨_, _, _, rfl, .inr (.inl ⟨p, ws, rfl, h4, ?_⟩)⟩
      rw [part_ok h2 ea, part_ok h3 eb]
      exact fun p hp => q _ _ [p] (.lst (cut_ri h5 a b) hp)
    · cases hg
  · rename_i l lo hi
    cases hr with
    | cons hx hr =>
    cases hr with
    | cons h2 hr =>
    cases hr with
    | cons h3 hr =>
    cases hr
    split at hg
    · rename_i a b ea eb
      split at hg
      · rename_i hl
        cases hg
        obtain rfl := rr_str hx
        refine ⟨_, _, _, rfl, .inr (.inr ⟨_, rfl, by rw [mkS_len, sizeLine_eq]; exact hl, ?_⟩)⟩
        rw [part_ok h2 ea, part_ok h3 eb]
        have e : cutS (mkS l) a b = mkS (cutD l a b) := by
          unfold cutS cutD
          rw [mkS_len]
        rw [e]
        exact q _ H [] (.imm (.str _))
      · cases hg
    · cases hg
  · cases hg
end
/-- a part of a slice that is an int -/
def mInt (m : M D) : M D := fun l => match m l with
  | .ok (.int i) l1 => .ok (.int i) l1
  | .ok _ _ => .bad
  | r => r
section
variable {X : Cx} {W : WX} {e : Expr} {me ml mh : M D} {pos p2 : Pos}
/-- the reading of a slice's part -/
def OMr (K : PySem.W.Frag) (W : WX) (t : TO) (m : M D) : Prop := ∀ {σ : L2.St} {f0 : List Addr} {H0 H1 : Hp} {ts : List D} {tv : List V} {loc : Loc} {Q : Option Int → Hp → Prop}, Now K σ f0 H0 ts tv loc H1 →
  PostE K W σ f0 H0 ts tv (fun v H => Q (partV v) H) (m loc) → t σ H1 Q
theorem ro_int {K : PySem.W.Frag} {H : Hp} {i : Int} {v : V} {f} (h : RO K H (.int i) v f) : v = .int i := by
  cases h with
  | imm z => cases z; rfl
theorem om_none {K : PySem.W.Frag} : OMr K W tNoPart (mC .non) := fun {σ f0 H0 H1 ts tv loc Q} N p => by
  refine p .non H1 ?_
  obtain ⟨ft, fp, hv, hl, nd, tr⟩ := N
  refine ⟨ft, fp, ?_, hl, nd, tr⟩
  have := hv.append (.one (.inl (.imm .non)) : RVs K H1 σ [.non] [.non] [])
  rwa [List.append_nil] at this
theorem om_some {K : PySem.W.Frag} : OMr K W (tPart (tE K W me)) (mInt me) := fun {σ f0 H0 H1 ts tv loc Q} N p => by
  refine seqE N ?_
  unfold mInt at p
  generalize me loc = r at p ⊢
  cases r with
  | ok d l =>
    intro v H n
    cases d with
    | int i =>
      have n2 := n
      obtain ⟨ft, fp, hv, hl, nd, tr⟩ := n2
      have e : v = .int i := by
        have : ∀ {ts tv f}, RVs K H σ (ts ++ [.int i]) (tv ++ [v]) f → ts.length = tv.length → v = .int i := by
          intro ts
          induction ts with
          | nil =>
            intro tv f h hl
            cases tv with
            | nil =>
              exact ro_int (rv_ro h.one_of (by intro j e; cases e))
            | cons _ _ => cases hl
          | cons a r ih =>
            intro tv f h hl
            cases tv with
            | nil => cases hl
            | cons b s =>
              cases h with
              | cons _ h => exact ih h (by simpa using hl)
        have hl2 := hv.length
        rw [List.length_append, List.length_append] at hl2
        exact this hv (by simpa using hl2)
      exact ⟨i, e, by have := p v H n; rw [e] at this; exact this⟩
    | _ => exact p.elim
  | exc x l => exact p
  | bad => exact p
theorem em_slice {lo hi : Option Expr} {tl th : TO} (he : PE X e (tE X.K W me)) (hl : PO X lo tl) (hh : PO X hi th) (ol : OMr X.K W tl ml) (oh : OMr X.K W th mh) : PE X (.Subscript e (.Slice lo hi none p2) pos) (tE X.K W (mOp gSl (mCons me (mCons ml (mCons mh mNil))))) :=
  PEi (pe_slice sl_all he hl hh) fun σ H Q h => by
    obtain ⟨loc, fp, N, p⟩ := tE_in h
    refine seqE N ?_
    unfold mOp mCons mNil at p
    dsimp only at p
    generalize me loc = r at p ⊢
    cases r with
    | ok d l =>
      intro v H1 n1
      refine ol n1 ?_
      dsimp only at p
      generalize ml l = r2 at p ⊢
      cases r2 with
      | ok d2 l2 =>
        intro v2 H2 n2
        refine oh n2 ?_
        dsimp only at p
        generalize mh l2 = r3 at p ⊢
        cases r3 with
        | ok d3 l3 =>
          intro v3 H3 n3
          dsimp only at p
          split at p
          · rename_i z hz
            obtain ⟨ds', e1, e2⟩ := Option.bind_eq_some_iff.mp hz
            have n4 : Now X.K σ fp H [d, d2, d3] [v, v2, v3] l3 H3 := n3
            obtain ⟨x, y, z, e, q⟩ := n4.op osl e1 e2 (fun v H' n => p v H' n)
            cases e
            exact q
          · exact p.elim
        | exc x l => exact p
        | bad => exact p
      | exc x l => exact p
      | bad => exact p
    | exc x l => exact p
    | bad => exact p
theorem em_sl00 (he : PE X e (tE X.K W me)) : PE X (.Subscript e (.Slice none none none p2) pos) (tE X.K W (mOp gSl (mCons me (mCons (mC .non) (mCons (mC .non) mNil))))) := em_slice he po_none po_none om_none om_none
theorem em_sl10 {a : Expr} (he : PE X e (tE X.K W me)) (ha : PE X a (tE X.K W ml)) : PE X (.Subscript e (.Slice (some a) none none p2) pos) (tE X.K W (mOp gSl (mCons me (mCons (mInt ml) (mCons (mC .non) mNil))))) := em_slice he (po_some ha) po_none om_some om_none
theorem em_sl01 {a : Expr} (he : PE X e (tE X.K W me)) (ha : PE X a (tE X.K W ml)) : PE X (.Subscript e (.Slice none (some a) none p2) pos) (tE X.K W (mOp gSl (mCons me (mCons (mC .non) (mCons (mInt ml) mNil))))) := em_slice he po_none (po_some ha) om_none om_some
theorem em_sl11 {a b : Expr} (he : PE X e (tE X.K W me)) (ha : PE X a (tE X.K W ml)) (hb : PE X b (tE X.K W mh)) : PE X (.Subscript e (.Slice (some a) (some b) none p2) pos) (tE X.K W (mOp gSl (mCons me (mCons (mInt ml) (mCons (mInt mh) mNil))))) := em_slice he (po_some ha) (po_some hb) om_some om_some
end
end FM

set_option maxHeartbeats 1000000
/-! FM6: built-ins, methods of texts, calls of defs and methods, instances. -/
namespace FM
open PySem L2
/-! ### built-ins -/
section
variable {X : Cx} {W : WX} {e : Expr} {es : List Expr} {ms : M (List D)} {ma mb : M D} {x : Str} {id T : String} {p pos : Pos} {r : List V → Hp → VK → Prop} {g : List D → Option D}
theorem opA_in (hg : OpM X.K r g) {σ H Q} (h : tE X.K W (mOp g ms) σ H Q) : tA X.K W ms σ H fun vs H1 => r vs H1 Q := by
  obtain ⟨loc, fp, N, p⟩ := tE_in h
  refine seqA N ?_
  unfold mOp at p
  generalize ms loc = ra at p ⊢
  cases ra with
  | ok ds l =>
    intro vs H1 n1
    dsimp only at p
    split at p
    · rename_i z hz
      obtain ⟨ds', e1, e2⟩ := Option.bind_eq_some_iff.mp hz
      exact n1.op hg e1 e2 p
    · exact p.elim
  | exc x l => exact p
  | bad => exact p
theorem em_callB (hc : CallR X (.builtin id) r) (hg : OpM X.K r g) (hgl : Gl X x) (hm : X.mg x = none) (hv : bootBuiltins x = some (.builtin id)) (ha : PA X (e :: es) (tA X.K W ms)) (hn : x ≠ "__name__" := by decide) (hdb : (x == ("__debug__" : Str)) = false := by decide)
    (he : starEach (e :: es) X.env = (false, eval e X.env) :: starEach es X.env := by rfl) (hpl : (backTo pos (starEach es X.env)).any (·.1) = false := by rfl) : PE X (.Call (.Name x p) (e :: es) [] pos) (tE X.K W (mOp g ms)) :=
  PEi (pe_callB hc hgl hm hv ha hn hdb he hpl) fun _ _ _ h => opA_in hg h
theorem em_callTy (hc : CallR X (.type T) r) (hg : OpM X.K r g) (hgl : Gl X x) (hm : X.mg x = none) (hv : bootBuiltins x = some (.type T)) (ha : PA X (e :: es) (tA X.K W ms)) (hn : x ≠ "__name__" := by decide) (hdb : (x == ("__debug__" : Str)) = false := by decide)
    (he : starEach (e :: es) X.env = (false, eval e X.env) :: starEach es X.env := by rfl) (hpl : (backTo pos (starEach es X.env)).any (·.1) = false := by rfl) : PE X (.Call (.Name x p) (e :: es) [] pos) (tE X.K W (mOp g ms)) :=
  PEi (pe_callTy hc hgl hm hv ha hn hdb he hpl) fun _ _ _ h => opA_in hg h
end
section
variable {X : Cx} {K : PySem.W.Frag}
def gLen : List D → Option D
  | [.str l] => if l.length ≤ 16777216 then some (.int l.length) else none
  | [.tup l] => some (.int l.length)
  | [.lst l] => some (.int l.length)
  | [.dic l] => some (.int l.length)
  | _ => none
def rLenA (K : PySem.W.Frag) : List V → Hp → VK → Prop := fun xs H Q => (∃ x n, xs = [x] ∧ LenV K x H n ∧ Q (.int n) H) ∨ ∃ d kvs, xs = [.ref d] ∧ Rd H d (.dK kvs) ∧ Q (.int (kvs.length : Nat)) H
theorem call_lenA : CallR X (.builtin "len") (rLenA X.K) := by
  intro pins s σ H xs us Q I r h
  rcases h with h | ⟨d, kvs, rfl, hd, q⟩
  · exact call_len pins s σ H xs us Q I r h
  · obtain ⟨u, rfl, r1⟩ := vals1 r
    cases r1
    exact d_len I hd fun t s' I' => ⟨.int (kvs.length : Nat), H, I', ⟨t, rfl⟩, q⟩
theorem rks_len {H : Hp} : ∀ {ds vs}, RKs K H ds vs → ds.length = vs.length
  | _, _, .nil => rfl
  | _, _, .int _ r => congrArg (· + 1) (rks_len r)
  | _, _, .str _ r => congrArg (· + 1) (rks_len r)
theorem olen : OpM K (rLenA K) gLen := by
  intro H ds vs d Q hr hg q
  unfold gLen at hg
  split at hg
  · split at hg
    · rename_i hl
      cases hg
      obtain ⟨x, rfl, hx⟩ := rrs1 hr
      obtain rfl := rr_str hx
      exact .inl ⟨_, _, rfl, ⟨by rw [mkS_len, sizeLine_eq]; exact hl, rfl⟩, by rw [mkS_len]; exact q _ H [] (.imm (.int _))⟩
    · cases hg
  · cases hg
    obtain ⟨x, rfl, hx⟩ := rrs1 hr
    obtain ⟨p, ws, rfl, h1, h2⟩ := rr_tup hx
    exact .inl ⟨_, _, rfl, .inr ⟨ws, h1, rfl⟩, by rw [← h2.length]; exact q _ H [] (.imm (.int _))⟩
  · cases hg
    obtain ⟨x, rfl, hx⟩ := rrs1 hr
    obtain ⟨p, ws, rfl, h1, h2⟩ := rr_lst hx
    exact .inl ⟨_, _, rfl, .inl ⟨ws, h1, rfl⟩, by rw [← h2.length]; exact q _ H [] (.imm (.int _))⟩
  · cases hg
    obtain ⟨x, rfl, hx⟩ := rrs1 hr
    obtain ⟨p, ws, rfl, h1, h2⟩ := rr_dic hx
    exact .inr ⟨_, ws, rfl, h1, by rw [← rks_len h2]; exact q _ H [] (.imm (.int _))⟩
  · cases hg
def gInt : List D → Option D
  | [.int i] => some (.int i)
  | [.bl b] => some (.int (if b then 1 else 0))
  | [.str l] => if l.length ≤ 640 then (PySem.intText? ⟨l.toArray⟩).map .int else none
  | _ => none
def rIntA : List V → Hp → VK → Prop := fun xs H Q => ((∃ i, xs = [.int i] ∧ Q (.int i) H) ∨ ∃ k, xs = [.bl k] ∧ Q (.int (if k then 1 else 0)) H) ∨ ∃ a n, xs = [.str a] ∧ PySem.intText? a = some n ∧ a.length ≤ 640 ∧ Q (.int n) H
theorem call_intA : CallR X (.type "int") rIntA := by
  intro pins s σ H xs us Q I r h
  rcases h with h | h
  · exact call_int1 pins s σ H xs us Q I r h
  · exact call_int_str pins s σ H xs us Q I r h
theorem oint : OpM K rIntA gInt := by
  intro H ds vs d Q hr hg q
  unfold gInt at hg
  split at hg
  · cases hg
    obtain ⟨x, rfl, hx⟩ := rrs1 hr
    obtain rfl := rr_int hx
    exact .inl (.inl ⟨_, rfl, q _ H [] (.imm (.int _))⟩)
  · cases hg
    obtain ⟨x, rfl, hx⟩ := rrs1 hr
    obtain rfl := rr_bl hx
    exact .inl (.inr ⟨_, rfl, q _ H [] (.imm (.int _))⟩)
  · split at hg
    · rename_i hl
      obtain ⟨n, e1, rfl⟩ := Option.map_eq_some_iff.mp hg
      obtain ⟨x, rfl, hx⟩ := rrs1 hr
      obtain rfl := rr_str hx
      exact .inr ⟨_, n, rfl, e1, by rw [mkS_len]; exact hl, q _ H [] (.imm (.int _))⟩
    · cases hg
  · cases hg
/-- a number's signs -/
def digs (i : Int) : List Nat := TL.tl (Str.ofString (toString i))
def gStr : List D → Option D
  | [.int i] => if i.natAbs.log2 < 1920 then some (.str (digs i)) else none
  | _ => none
theorem ostr : OpM K (fun xs H Q => ∃ i : Int, xs = [.int i] ∧ i.natAbs.log2 < 1920 ∧ Q (.str (Str.ofString (toString i))) H) gStr := by
  intro H ds vs d Q hr hg q
  unfold gStr at hg
  split at hg
  · split at hg
    · rename_i hl
      cases hg
      obtain ⟨x, rfl, hx⟩ := rrs1 hr
      obtain rfl := rr_int hx
      refine ⟨_, rfl, hl, ?_⟩
      have := q (.str (mkS (digs _))) H [] (.imm (.str _))
      unfold digs at this
      rwa [mkS_tl] at this
    · cases hg
  · cases hg
def gTuple : List D → Option D
  | [.tup l] => some (.tup l)
  | [.lst l] => some (.tup l)
  | _ => none
theorem otuple : OpM K (fun xs H Q => ∃ p ys, xs = [.ref p] ∧ ((SqL K H p ys ∧ ∀ l, H l = none → Q (.ref l) (upd H l (.tup ys))) ∨ (SqT K H p ys ∧ Q (.ref p) H))) gTuple := by
  intro H ds vs d Q hr hg q
  unfold gTuple at hg
  split at hg
  · cases hg
    obtain ⟨x, rfl, hx⟩ := rrs1 hr
    obtain ⟨p, ws, rfl, h1, h2⟩ := rr_tup hx
    exact ⟨p, ws, rfl, .inr ⟨h1, q _ H [] (.imm (.tup h1 h2))⟩⟩
  · cases hg
    obtain ⟨x, rfl, hx⟩ := rrs1 hr
    obtain ⟨p, ws, rfl, h1, h2⟩ := rr_lst hx
    exact ⟨p, ws, rfl, .inl ⟨h1, fun l hl => q _ _ [] (.tup h2 hl)⟩⟩
  · cases hg
def gList : List D → Option D
  | [.tup l] => some (.own l)
  | [.lst l] => some (.own l)
  | _ => none
theorem olist : OpM K (fun xs H Q => ∃ p ys, xs = [.ref p] ∧ (SqL K H p ys ∨ SqT K H p ys) ∧ ∀ l, H l = none → Q (.ref l) (upd H l (.lst ys))) gList := by
  intro H ds vs d Q hr hg q
  unfold gList at hg
  split at hg
  · cases hg
    obtain ⟨x, rfl, hx⟩ := rrs1 hr
    obtain ⟨p, ws, rfl, h1, h2⟩ := rr_tup hx
    exact ⟨p, ws, rfl, .inr h1, fun l hl => q _ _ [l] (.lst h2 hl)⟩
  · cases hg
    obtain ⟨x, rfl, hx⟩ := rrs1 hr
    obtain ⟨p, ws, rfl, h1, h2⟩ := rr_lst hx
    exact ⟨p, ws, rfl, .inl h1, fun l hl => q _ _ [l] (.lst h2 hl)⟩
  · cases hg
def gAll : List D → Option D
  | [.lst l] => (bls? l).map fun bs => .bl (bs.all id)
  | _ => none
def gAny : List D → Option D
  | [.lst l] => (bls? l).map fun bs => .bl (bs.any id)
  | _ => none
def gSum : List D → Option D
  | [.lst l] => (ints? l).map fun bs => .int bs.sum
  | _ => none
theorem oall : OpM K (rAll K) gAll := by
  intro H ds vs d Q hr hg q
  unfold gAll at hg
  split at hg
  · obtain ⟨bs, e1, rfl⟩ := Option.map_eq_some_iff.mp hg
    obtain ⟨x, rfl, hx⟩ := rrs1 hr
    obtain ⟨p, ws, rfl, h1, h2⟩ := rr_lst hx
    rw [bls?_some e1] at h2
    rw [ris_bls h2] at h1
    exact ⟨p, bs, rfl, h1, q _ H [] (.imm (.bl _))⟩
  · cases hg
theorem oany : OpM K (rAny K) gAny := by
  intro H ds vs d Q hr hg q
  unfold gAny at hg
  split at hg
  · obtain ⟨bs, e1, rfl⟩ := Option.map_eq_some_iff.mp hg
    obtain ⟨x, rfl, hx⟩ := rrs1 hr
    obtain ⟨p, ws, rfl, h1, h2⟩ := rr_lst hx
    rw [bls?_some e1] at h2
    rw [ris_bls h2] at h1
    exact ⟨p, bs, rfl, h1, q _ H [] (.imm (.bl _))⟩
  · cases hg
theorem osum : OpM K (rSum K) gSum := by
  intro H ds vs d Q hr hg q
  unfold gSum at hg
  split at hg
  · obtain ⟨bs, e1, rfl⟩ := Option.map_eq_some_iff.mp hg
    obtain ⟨x, rfl, hx⟩ := rrs1 hr
    obtain ⟨p, ws, rfl, h1, h2⟩ := rr_lst hx
    rw [ints?_some e1] at h2
    rw [ris_ints h2] at h1
    exact ⟨p, bs, rfl, h1, q _ H [] (.imm (.int _))⟩
  · cases hg
def gAbs : List D → Option D
  | [.int i] => some (.int (if i < 0 then -i else i))
  | _ => none
theorem oabs : OpM K (fun xs H Q => ∃ i, xs = [.int i] ∧ Q (.int (if i < 0 then -i else i)) H) gAbs := by
  intro H ds vs d Q hr hg q
  unfold gAbs at hg
  split at hg
  · cases hg
    obtain ⟨x, rfl, hx⟩ := rrs1 hr
    obtain rfl := rr_int hx
    exact ⟨_, rfl, q _ H [] (.imm (.int _))⟩
  · cases hg
/-! ### isinstance -/
def tyOf : D → Option String
  | .non => some "NoneType" | .bl _ => some "bool" | .int _ => some "int" | .str _ => some "str" | .tup _ => some "tuple" | .lst _ => some "list" | .dic _ => some "dict"
  | _ => none
def isiB (t n : String) : Option Bool :=
  if n = "int" then some (t = "int" || t = "bool") else if n = "bool" then some (t = "bool") else if n = "str" then some (t = "str") else if n = "tuple" then some (t = "tuple") else if n = "list" then some (t = "list") else none
def gIsi : List D → Option D
  | [d, .ty n] => match tyOf d with
    | some t => (isiB t n).map .bl
    | none => none
  | _ => none
theorem kit_all : (["NoneType", "bool", "int", "str", "tuple", "list", "dict"].all fun t => ["int", "bool", "str", "tuple", "list"].all fun n => decide (kitB t n = isiB t n)) = true := by decide +kernel
theorem kit_isi {t n : String} {b : Bool} (ht : t ∈ ["NoneType", "bool", "int", "str", "tuple", "list", "dict"]) (h : isiB t n = some b) : kitB t n = some b := by
  have hn : n ∈ ["int", "bool", "str", "tuple", "list"] := by
    unfold isiB at h
    split at h
    · subst_vars; decide
    · split at h
      · subst_vars; decide
      · split at h
        · subst_vars; decide
        · split at h
          · subst_vars; decide
          · split at h
            · subst_vars; decide
            · cases h
  have := List.all_eq_true.mp (List.all_eq_true.mp kit_all t ht) n hn
  rw [of_decide_eq_true this, h]
theorem rr_ty_of {H : Hp} {d : D} {v : V} {t : String} (h : RR K H d v) (e : tyOf d = some t) : TyX K H v (.type t) ∧ t ∈ ["NoneType", "bool", "int", "str", "tuple", "list", "dict"] := by
  have sq : ∀ {a vs}, SqL K H a vs → TyX K H (.ref a) (.type "list") := fun {a vs} z => by
    rcases z with (z | ⟨o, z⟩) | ⟨o, its, n, z1, z2, _⟩
    · exact .base (.lst z)
    · exact .base (.frz z)
    · exact .kList z1 z2
  cases h with
  | imm h =>
    cases h with
    | non => cases e; exact ⟨.base .non, by decide⟩
    | bl b => cases e; exact ⟨.base (.bl b), by decide⟩
    | int b => cases e; exact ⟨.base (.int b), by decide⟩
    | str b => cases e; exact ⟨.base (.str _), by decide⟩
    | ty b => cases e
    | cls b => cases e
    | tup z r =>
      cases e
      rcases z with (z | ⟨o, z⟩) | ⟨o, its, n, z1, z2, _⟩
      · exact ⟨.base (.tup z), by decide⟩
      · exact ⟨.fTuple z, by decide⟩
      · exact ⟨.kTuple z1 z2, by decide⟩
    | lst z r => cases e; exact ⟨sq z.sq, by decide⟩
    | dic z r => cases e; exact ⟨.fDict z, by decide⟩
  | lst z r => cases e; exact ⟨sq z, by decide⟩
  | dic z r =>
    cases e
    rcases z with z | ⟨o, z⟩
    · exact ⟨.base (.dK z), by decide⟩
    · exact ⟨.fDict z, by decide⟩
theorem oisi : OpM K (rIsi K) gIsi := by
  intro H ds vs d Q hr hg q
  unfold gIsi at hg
  split at hg
  · rename_i d0 n
    split at hg
    · rename_i t ht
      obtain ⟨b, e1, rfl⟩ := Option.map_eq_some_iff.mp hg
      obtain ⟨x, y, rfl, hx, hy⟩ := rrs2 hr
      obtain rfl := rr_ty hy
      obtain ⟨h1, h2⟩ := rr_ty_of hx ht
      exact ⟨_, _, _, _, b, rfl, .ty n, h1, kit_ty (kit_isi h2 e1), q _ H [] (.imm (.bl b))⟩
    · cases hg
  · cases hg
end
section
variable {X : Cx} {W : WX} {e o : Expr} {ma mb : M D} {pos apos : Pos} {g : List D → Option D}
theorem em_ty {x : Str} {n : String} (hg : Gl X x) (hm : X.mg x = none) (hv : bootBuiltins x = some (.type n)) (hn : x ≠ "__name__" := by decide) (hd : (x == ("__debug__" : Str)) = false := by decide) : PE X (.Name x pos) (tE X.K W (mC (.ty n))) := em_c (pe_bltn (v := .ty n) hg hm hv rfl hn hd) fun _ => .ty n

/-! ### methods of texts -/
/-- the receiver a text, one argument -/
def mStr1 (g : List D → Option D) (ma mb : M D) : M D := fun l => match ma l with
  | .ok (.str s) l1 => mOp g (mCons (mC (.str s)) (mCons mb mNil)) l1
  | .ok _ _ => .bad
  | r => r
theorem str1_in {r : V → List V → Hp → VK → Prop} (hg : OpM X.K (fun vs H Q => ∃ x y, vs = [x, y] ∧ r x [y] H Q) g) {σ H Q} (h : tE X.K W (mStr1 g ma mb) σ H Q) : tM1 r (tE X.K W ma) (tE X.K W mb) σ H Q := by
  obtain ⟨loc, fp, N, p⟩ := tE_in h
  refine seqE N ?_
  unfold mStr1 at p
  generalize ma loc = ra at p ⊢
  cases ra with
  | ok d l =>
    intro v H1 n1
    cases d with
    | str s =>
      have e : v = .str ⟨s.toArray⟩ := by
        obtain ⟨ft, fp', z1, _⟩ := n1
        have := rv_ro z1.one_of (by intro i e; cases e)
        cases this with
        | imm z => cases z; rfl
      subst e
      refine ⟨⟨_, rfl⟩, ?_⟩
      refine seqE n1 ?_
      unfold mOp mCons mC mNil at p
      dsimp only at p
      generalize mb l = rb at p
      cases rb with
      | ok d2 l2 =>
        intro y H2 n2
        dsimp only at p
        split at p
        · rename_i z hz
          obtain ⟨ds', e1, e2⟩ := Option.bind_eq_some_iff.mp hz
          have n3 : Now X.K σ fp H [.str s, d2] [.str ⟨s.toArray⟩, y] l2 H2 := n2
          obtain ⟨x', y', e, q⟩ := n3.op hg e1 e2 (fun v H' n => p v H' n)
          cases e
          exact q
        · exact p.elim
      | exc x l2 => exact p
      | bad => exact p
    | _ => exact p.elim
  | exc x l => exact p
  | bad => exact p
def gJoin : List D → Option D
  | [.str s, .lst l] => (strs? l).bind fun ps => if (ps.map List.length).sum + ps.length * s.length ≤ 16777216 then some (.str (TL.joinL s ps)) else none
  | [.str s, .tup l] => (strs? l).bind fun ps => if (ps.map List.length).sum + ps.length * s.length ≤ 16777216 then some (.str (TL.joinL s ps)) else none
  | _ => none
theorem mkS_lens (ps : List (List Nat)) : ((ps.map mkS).map (·.length)) = ps.map List.length := by
  rw [List.map_map]
  exact List.map_congr_left fun l _ => mkS_len l
theorem join_mk (s : List Nat) (ps : List (List Nat)) : Txt.join (mkS s) (ps.map mkS) = mkS (TL.joinL s ps) := by
  refine TL.ext_tl ?_
  rw [TL.join_eq, TL.tl_join, List.map_map]
  have : ps.map (TL.tl ∘ mkS) = ps := (List.map_congr_left (g := id) fun l _ => rfl).trans (List.map_id ps)
  rw [this]
theorem ojoin {K : PySem.W.Frag} : OpM K (fun vs H Q => ∃ x y, vs = [x, y] ∧ (fun x xs H Q => ∃ a p, ∃ ys : List Str, x = .str a ∧ xs = [.ref p] ∧ (SqL K H p (ys.map V.str) ∨ SqT K H p (ys.map V.str)) ∧
    (ys.map (·.length)).sum + ys.length * a.length ≤ 16777216 ∧ Q (.str (Txt.join a ys)) H : V → List V → Hp → VK → Prop) x [y] H Q) gJoin := by
  intro H ds vs d Q hr hg q
  unfold gJoin at hg
  split at hg
  · rename_i s l
    obtain ⟨ps, e1, e2⟩ := Option.bind_eq_some_iff.mp hg
    split at e2
    · rename_i hl
      cases e2
      obtain ⟨x, y, rfl, hx, hy⟩ := rrs2 hr
      obtain rfl := rr_str hx
      obtain ⟨p, ws, rfl, h1, h2⟩ := rr_lst hy
      rw [strs?_some e1] at h2
      rw [ris_strs h2] at h1
      refine ⟨_, _, rfl, _, p, ps.map mkS, rfl, rfl, .inl h1, by rw [mkS_lens, mkS_len, List.length_map]; exact hl, ?_⟩
      rw [join_mk]
      exact q _ H [] (.imm (.str _))
    · cases e2
  · rename_i s l
    obtain ⟨ps, e1, e2⟩ := Option.bind_eq_some_iff.mp hg
    split at e2
    · rename_i hl
      cases e2
      obtain ⟨x, y, rfl, hx, hy⟩ := rrs2 hr
      obtain rfl := rr_str hx
      obtain ⟨p, ws, rfl, h1, h2⟩ := rr_tup hy
      rw [strs?_some e1] at h2
      rw [ris_strs h2] at h1
      refine ⟨_, _, rfl, _, p, ps.map mkS, rfl, rfl, .inr h1, by rw [mkS_lens, mkS_len, List.length_map]; exact hl, ?_⟩
      rw [join_mk]
      exact q _ H [] (.imm (.str _))
    · cases e2
  · cases hg
/-- split at one sign -/
def gSplit : List D → Option D
  | [.str a, .str [c]] => if a.length + 2 ≤ 16777216 ∧ c < 256 then some (.own ((TL.spl [c] 0 [] a).map .str)) else none
  | _ => none
theorem split_mk (a : List Nat) (c : Nat) (h : c < 256) : Txt.split (mkS a) (mkS [c]) = (TL.spl [c] 0 [] a).map mkS := by
  refine TL.map_tl_inj ?_
  rw [TL.split_spl _ (mkS [c]) (by simp [TL.tl]) (TL.kind_ok (by simp [h])), List.map_map]
  have : (TL.spl [c] 0 [] a).map (TL.tl ∘ mkS) = TL.spl [c] 0 [] a := (List.map_congr_left (g := id) fun l _ => rfl).trans (List.map_id _)
  rw [this]
theorem osplit {K : PySem.W.Frag} : OpM K (fun vs H Q => ∃ x y, vs = [x, y] ∧ (fun x xs H Q => ∃ a b, x = .str a ∧ xs = [.str b] ∧ (b.length == 0) = false ∧ a.length + 2 ≤ sizeLine ∧ rNewStrs (Txt.split a b) H Q : V → List V → Hp → VK → Prop) x [y] H Q) gSplit := by
  intro H ds vs d Q hr hg q
  unfold gSplit at hg
  split at hg
  · rename_i a c
    split at hg
    · rename_i hl
      cases hg
      obtain ⟨x, y, rfl, hx, hy⟩ := rrs2 hr
      obtain rfl := rr_str hx
      obtain rfl := rr_str hy
      refine ⟨_, _, rfl, _, _, rfl, rfl, rfl, by rw [mkS_len, sizeLine_eq]; exact hl.1, fun p hp => ?_⟩
      rw [split_mk a c hl.2]
      exact q _ _ [p] (.lst (of_strs _) hp)
    · cases hg
  · cases hg
theorem em_join (ho : PE X o (tE X.K W ma)) (he : PE X e (tE X.K W mb)) (hs : starEach [e] X.env = [(false, eval e X.env)] := by rfl) (hbase : attributeBase o "join" X.env (eval o X.env) = eval o X.env := by rfl) (hline : (apos.endLine == pos.line) = true := by rfl) :
    PE X (.Call (.Attribute o "join" apos) [e] [] pos) (tE X.K W (mStr1 gJoin ma mb)) := PEi (pe_join ho he hs hbase hline) fun _ _ _ h => str1_in ojoin h
theorem em_split (ho : PE X o (tE X.K W ma)) (he : PE X e (tE X.K W mb)) (hs : starEach [e] X.env = [(false, eval e X.env)] := by rfl) (hbase : attributeBase o "split" X.env (eval o X.env) = eval o X.env := by rfl) (hline : (apos.endLine == pos.line) = true := by rfl) :
    PE X (.Call (.Attribute o "split" apos) [e] [] pos) (tE X.K W (mStr1 gSplit ma mb)) := PEi (pe_split ho he hs hbase hline) fun _ _ _ h => str1_in osplit h
/-! ### displays -/
def mTup (ms : M (List D)) : M D := fun l => match ms l with
  | .ok ds l1 => if ds.all isImm && decide (ds.length ≤ 1000000) then .ok (.tup ds) l1 else .bad
  | .exc x l1 => .exc x l1
  | .bad => .bad
def mLst (ms : M (List D)) : M D := fun l => match ms l with
  | .ok ds l1 => if ds.all isImm && decide (ds.length ≤ 1000000) then .ok (.own ds) l1 else .bad
  | .exc x l1 => .exc x l1
  | .bad => .bad
theorem imm_ri {K : PySem.W.Frag} {H : Hp} {σ} {d v f} (h : RV K H σ d v f) (hi : isImm d = true) : RI K H d v := by
  rcases h with h | ⟨i, e, _⟩
  · cases h with
    | imm h => exact h
    | own _ _ => cases hi
    | odi _ _ => cases hi
    | obj _ _ => cases hi
  · subst e
    cases hi
theorem imms_ri {K : PySem.W.Frag} {H : Hp} {σ} : ∀ {ds vs f}, RVs K H σ ds vs f → ds.all isImm = true → RIs K H ds vs
  | _, _, _, .nil, _ => .nil
  | _, _, _, .cons h r, hi => by
    rw [List.all_cons, Bool.and_eq_true_iff] at hi
    exact .cons (imm_ri h hi.1) (imms_ri r hi.2)
theorem em_tup {es : List Expr} {ms : M (List D)} {k} (h : PA X es (tA X.K W ms)) : PE X (.Tuple es k pos) (tE X.K W (mTup ms)) := PEi (pe_tup h) fun σ H Q q => by
  obtain ⟨loc, fp, N, p⟩ := tE_in q
  refine seqA N ?_
  unfold mTup at p
  generalize ms loc = r at p ⊢
  cases r with
  | ok ds l =>
    intro vs H1 n1
    dsimp only at p
    split at p
    · rename_i hc
      obtain ⟨h1, h2⟩ := Bool.and_eq_true_iff.mp hc
      have h2 := of_decide_eq_true h2
      obtain ⟨ft, fq, z1, z2, z3, z4⟩ := id n1
      have hr := imms_ri z1 h1
      have hl : ds.length = vs.length := hr.length
      exact ⟨by rw [← hl, sizeLine_eq]; omega, fun a ha => p _ _ (n1.fresh (.tup hr ha))⟩
    · exact p.elim
  | exc x l => exact p
  | bad => exact p
theorem em_lst {es : List Expr} {ms : M (List D)} (h : PA X es (tA X.K W ms)) : PE X (.List es pos) (tE X.K W (mLst ms)) := PEi (pe_lst h) fun σ H Q q => by
  obtain ⟨loc, fp, N, p⟩ := tE_in q
  refine seqA N ?_
  unfold mLst at p
  generalize ms loc = r at p ⊢
  cases r with
  | ok ds l =>
    intro vs H1 n1
    dsimp only at p
    split at p
    · rename_i hc
      obtain ⟨h1, h2⟩ := Bool.and_eq_true_iff.mp hc
      have h2 := of_decide_eq_true h2
      obtain ⟨ft, fq, z1, z2, z3, z4⟩ := id n1
      have hr := imms_ri z1 h1
      have hl : ds.length = vs.length := hr.length
      exact ⟨by rw [← hl, sizeLine_eq]; omega, fun a ha => p _ _ (n1.fresh (.lst hr ha))⟩
    · exact p.elim
  | exc x l => exact p
  | bad => exact p
end
end FM

set_option maxHeartbeats 1000000
/-! FM7: calls of defs and methods; instances. -/
namespace FM
open PySem L2
/-! ### promises by functions -/
inductive RF where
  | ok (d : D) (io : List D) | exc (x : Exn) (io : List D) | bad
inductive ROl (K : PySem.W.Frag) (H : Hp) : List D → List V → List Addr → Prop
  | nil : ROl K H [] [] []
  | cons {d v f1 ds vs f2} : RO K H d v f1 → ROl K H ds vs f2 → ROl K H (d :: ds) (v :: vs) (f1 ++ f2)
def pick {α : Type} : List Bool → List α → List α
  | true :: fl, v :: vs => v :: pick fl vs
  | false :: fl, _ :: vs => pick fl vs
  | _, _ => []
/-- m of the arguments: what comes back, and what stands behind it in the places that fl marks -/
def spM (K : PySem.W.Frag) (fl : List Bool) (m : List D → RF) : Sp := fun vs H Q E => vs.length = fl.length ∧ ∃ ds fp, ROl K H ds vs fp ∧ fp.Nodup ∧ match m ds with
  | .ok d io => ∀ v H' fd fi, RO K H' d v fd → ROl K H' io (pick fl vs) fi → (fd ++ fi).Nodup → Tr fp H (fd ++ fi) H' → Q v H'
  | .exc x io => ∀ cls dd H' fi, RX K H' x cls dd → ROl K H' io (pick fl vs) fi → fi.Nodup → Tr fp H fi H' → E cls dd H'
  | .bad => False
/-- the arguments handed over: a lent thing goes out of its name where fl marks the place -/
def takeA : List Bool → List D → Loc → Option (List D × List Nat × Loc)
  | [], [], l => some ([], [], l)
  | true :: fl, .brw i :: ds, l => match l[i]? with
    | some (some d) => match takeA fl ds (l.set i none) with
      | some (es, is, l2) => some (d :: es, i :: is, l2)
      | none => none
    | _ => none
  | true :: _, _ :: _, _ => none
  | false :: _, .brw _ :: _, _ => none
  | false :: fl, d :: ds, l => match takeA fl ds l with
    | some (es, is, l2) => some (d :: es, is, l2)
    | none => none
  | _, _, _ => none
/-- .. and back -/
def putA : List Nat → List D → Loc → Option Loc
  | [], [], l => some l
  | i :: is, d :: ds, l => match l[i]? with
    | some none => putA is ds (l.set i (some d))
    | _ => none
  | _, _, _ => none
inductive AtS (σ : L2.St) : List Nat → List V → Prop
  | nil : AtS σ [] []
  | cons {i is v vs} : σ[i]? = some (some v) → AtS σ is vs → AtS σ (i :: is) (v :: vs)
section
variable {K : PySem.W.Frag} {H : Hp} {σ : L2.St}
theorem takeA_ok : ∀ {fl : List Bool} {ds : List D} {l : Loc} {es : List D} {is : List Nat} {l2 : Loc} {vs : List V} {ft fp : List Addr}, takeA fl ds l = some (es, is, l2) → RVs K H σ ds vs ft → RL K H l σ fp →
    ∃ fa fr, ROl K H es vs fa ∧ RL K H l2 σ fr ∧ (fa ++ fr).Perm (ft ++ fp) ∧ AtS σ is (pick fl vs) ∧ vs.length = fl.length
  | [], [], l, es, is, l2, vs, ft, fp, h, hv, hl => by
    cases h
    cases hv
    exact ⟨[], fp, .nil, hl, .refl _, .nil, rfl⟩
  | true :: fl, .brw i :: ds, l, es, is, l2, vs, ft, fp, h, hv, hl => by
    cases hv with
    | cons h1 h2 =>
      obtain ⟨es0, rfl⟩ := brw_of h1
      unfold takeA at h
      split at h
      · rename_i d he
        split at h
        · rename_i es1 is1 l3 ht
          cases h
          obtain ⟨w, f1, f2, y1, y2, y3, y4⟩ := hl.take he
          rw [es0] at y1
          cases y1
          obtain ⟨fa, fr, a1, a2, a3, a4, a5⟩ := takeA_ok ht h2 y3
          refine ⟨f1 ++ fa, fr, .cons y2 a1, a2, ?_, .cons es0 a4, congrArg (· + 1) a5⟩
          rw [List.nil_append]
          rw [List.append_assoc]
          refine (List.Perm.append_left f1 a3).trans ?_
          refine List.Perm.trans ?_ (List.Perm.append_left _ y4.symm)
          rw [← List.append_assoc, ← List.append_assoc]
          exact List.Perm.append_right f2 List.perm_append_comm
        · cases h
      · cases h
  | false :: fl, d :: ds, l, es, is, l2, vs, ft, fp, h, hv, hl => by
    cases hv with
    | cons h1 h2 =>
      have nb : ∀ i, d ≠ .brw i := fun i e => by
        subst e
        cases h
      have h : (match takeA fl ds l with | some (es, is, l2) => some (d :: es, is, l2) | none => none) = some (es, is, l2) := by
        cases d <;> first | exact h | exact absurd rfl (nb _)
      split at h
      · rename_i es1 is1 l3 ht
        cases h
        obtain ⟨fa, fr, a1, a2, a3, a4, a5⟩ := takeA_ok ht h2 hl
        refine ⟨_ ++ fa, fr, .cons (rv_ro h1 nb) a1, a2, ?_, a4, congrArg (· + 1) a5⟩
        rw [List.append_assoc, List.append_assoc]
        exact List.Perm.append_left _ a3
      · cases h
  | true :: _, .non :: _, _, _, _, _, _, _, _, h, _, _ => by cases h
  | true :: _, .bl _ :: _, _, _, _, _, _, _, _, h, _, _ => by cases h
  | true :: _, .int _ :: _, _, _, _, _, _, _, _, h, _, _ => by cases h
  | true :: _, .str _ :: _, _, _, _, _, _, _, _, h, _, _ => by cases h
  | true :: _, .tup _ :: _, _, _, _, _, _, _, _, h, _, _ => by cases h
  | true :: _, .lst _ :: _, _, _, _, _, _, _, _, h, _, _ => by cases h
  | true :: _, .dic _ :: _, _, _, _, _, _, _, _, h, _, _ => by cases h
  | true :: _, .ty _ :: _, _, _, _, _, _, _, _, h, _, _ => by cases h
  | true :: _, .cls _ :: _, _, _, _, _, _, _, _, h, _, _ => by cases h
  | true :: _, .own _ :: _, _, _, _, _, _, _, _, h, _, _ => by cases h
  | true :: _, .obj _ _ :: _, _, _, _, _, _, _, _, h, _, _ => by cases h
  | true :: _, .odi _ :: _, _, _, _, _, _, _, _, h, _, _ => by cases h
  | [], _ :: _, _, _, _, _, _, _, _, h, _, _ => by cases h
  | true :: _, [], _, _, _, _, _, _, _, h, _, _ => by cases h
  | false :: _, [], _, _, _, _, _, _, _, h, _, _ => by cases h
theorem putA_ok : ∀ {is : List Nat} {ds : List D} {l l2 : Loc} {vs : List V} {fi fr : List Addr}, putA is ds l = some l2 → ROl K H ds vs fi → RL K H l σ fr → AtS σ is vs → ∃ fp, RL K H l2 σ fp ∧ fp.Perm (fi ++ fr)
  | [], [], l, l2, vs, fi, fr, h, hr, hl, ha => by
    cases h
    cases hr
    exact ⟨fr, hl, .refl _⟩
  | i :: is, d :: ds, l, l2, vs, fi, fr, h, hr, hl, ha => by
    cases hr with
    | cons h1 h2 =>
      cases ha with
      | cons a1 a2 =>
        unfold putA at h
        split at h
        · rename_i he
          obtain ⟨f, u1, u2⟩ := RL.fill h1 hl he a1
          obtain ⟨fp, w1, w2⟩ := putA_ok h h2 u1 a2
          refine ⟨fp, w1, w2.trans ?_⟩
          refine (List.Perm.append_left _ u2).trans ?_
          rw [← List.append_assoc]
          exact List.Perm.append_right fr List.perm_append_comm
        · cases h
  | [], _ :: _, _, _, _, _, _, h, _, _, _ => by cases h
  | _ :: _, [], _, _, _, _, _, h, _, _, _ => by cases h
end
theorem ROl.there {K : PySem.W.Frag} {H : Hp} : ∀ {ds vs f}, ROl K H ds vs f → ∀ a ∈ f, ∃ o, H a = some o
  | _, _, _, .nil, _, ha => by cases ha
  | _, _, _, .cons h r, a, ha => by
    rcases List.mem_append.mp ha with ha | ha
    · obtain ⟨o, e, _⟩ := h.there a ha
      exact ⟨o, e⟩
    · exact r.there a ha

/-! ### calls -/
def mCall (fl : List Bool) (m : List D → RF) (ms : M (List D)) : M D := fun l => match ms l with
  | .ok ds l1 => (match takeA fl ds l1 with
    | some (es, is, l2) => (match m es with
      | .ok d io => (match putA is io l2 with
        | some l3 => .ok d l3
        | none => .bad)
      | .exc x io => (match putA is io l2 with
        | some l3 => .exc x l3
        | none => .bad)
      | .bad => .bad)
    | none => .bad)
  | .exc x l1 => .exc x l1
  | .bad => .bad
section
variable {K : PySem.W.Frag} {W : WX} {σ : L2.St} {f0 : List Addr} {H0 H : Hp} {loc : Loc}
/-- the end of a call: from its promise back to the caller -/
theorem call_end {fl : List Bool} {m : List D → RF} {ds : List D} {vs : List V} {Q : VK} (N : Now K σ f0 H0 ds vs loc H)
    (p : PostE K W σ f0 H0 [] [] Q (match takeA fl ds loc with
    | some (es, is, l2) => (match m es with
      | .ok d io => (match putA is io l2 with
        | some l3 => .ok d l3
        | none => .bad)
      | .exc x io => (match putA is io l2 with
        | some l3 => .exc x l3
        | none => .bad)
      | .bad => .bad)
    | none => .bad)) : spM K fl m vs H Q (WE W σ) := by
  obtain ⟨ft, fp, hv, hl, nd, tr⟩ := N
  split at p
  · rename_i es is l2 ht
    obtain ⟨fa, fr, a1, a2, a3, a4, a5⟩ := takeA_ok ht hv hl
    have nd' := a3.nodup_iff.mpr nd
    obtain ⟨na, nr, nx⟩ := List.nodup_append.mp nd'
    have tr' : Tr f0 H0 (fa ++ fr) H := tr.perm a3
    refine ⟨a5, es, fa, a1, na, ?_⟩
    have back : ∀ {H' : Hp} {fd fi : List Addr} {io : List D} {l3 : Loc}, Tr fa H (fd ++ fi) H' → ROl K H' io (pick fl vs) fi → putA is io l2 = some l3 → (fd ++ fi).Nodup →
        ∃ fq, RL K H' l3 σ fq ∧ (fd ++ fq).Nodup ∧ Tr f0 H0 (fd ++ fq) H' := fun {H' fd fi io l3} t hi hp n2 => by
      have ap : ∀ a ∈ fr, a ∉ fa := fun a ha hb => nx a hb a ha rfl
      have hl2 := a2.keep t.kp (t.apart a2.there' ap)
      have st := t.still a2.there' ap
      obtain ⟨fq, u1, u2⟩ := putA_ok hp hi hl2 a4
      have pm : (fd ++ fq).Perm ((fd ++ fi) ++ fr) := by
        rw [List.append_assoc]
        exact List.Perm.append_left fd u2
      refine ⟨fq, u1, pm.nodup_iff.mpr (List.nodup_append.mpr ⟨n2, nr, fun a ha b hb e => st b hb (e ▸ ha)⟩), ?_⟩
      refine Tr.perm ⟨fun a o h hn => ?_, tr'.kp.trans t.kp, fun a ha => ?_⟩ pm
      · refine t.fr a o (tr'.fr a o h hn) fun hm => ?_
        rcases tr'.new a (List.mem_append_left _ hm) with z | z
        · exact hn z
        · rw [h] at z
          cases z
      · rcases List.mem_append.mp ha with ha | ha
        · exact ((tr'.less (f2 := fa) fun x hx => List.mem_append_left _ hx).trans t).new a ha
        · exact tr'.new a (List.mem_append_right _ ha)
    split at p
    · rename_i d io e
      split at p
      · rename_i l3 hp
        intro v H' fd fi hd hi n2 t
        obtain ⟨fq, u1, u2, u3⟩ := back t hi hp n2
        exact p v H' ⟨fd, fq, .one (.inl hd), u1, u2, u3⟩
      · exact p.elim
    · rename_i x io e
      split at p
      · rename_i l3 hp
        intro cls dd H' fi hx hi n2 t
        obtain ⟨fq, u1, u2, u3⟩ := back (fd := []) t hi hp n2
        exact p cls dd H' ⟨[], fq, .nil, u1, u2, u3⟩ hx
      · exact p.elim
    · exact p.elim
  · exact p.elim
end
section
variable {X : Cx} {W : WX} {k : Nat} {f C : Addr} {fd : FuncData} {ps : List Str} {x m : Str} {p pos apos : Pos} {e o : Expr} {es : List Expr} {fl : List Bool} {mf : List D → RF} {ms : M (List D)} {mo : M D}
theorem em_call (F : FnOk X.prog X.w X.K X.mg X.base (L2.CX X.prog X.w) k f fd ps (spM X.K fl mf)) (tk : Takes X W) (hr : Room k X.A) (hg : Gl X x) (hm : X.mg x = some (.ref f)) (hk : PySem.W.keepIn X.K (.ref f) = true) (hb : Binds X.K fd ps [])
    (ha : PA X (e :: es) (tA X.K W ms)) (hdb : (x == ("__debug__" : Str)) = false := by decide) (he : starEach (e :: es) X.env = (false, eval e X.env) :: starEach es X.env := by rfl) (hpl : (backTo pos (starEach es X.env)).any (·.1) = false := by rfl) :
    PE X (.Call (.Name x p) (e :: es) [] pos) (tE X.K W (mCall fl mf ms)) :=
  PEi (pe_callSD (dvs := []) F hr hg hm hk hb .nil (fun σ => passAt tk σ) ha hdb he hpl) fun σ H Q h => by
    obtain ⟨loc, fp, N, q⟩ := tE_in h
    refine seqA N ?_
    unfold mCall at q
    generalize ms loc = r at q ⊢
    cases r with
    | ok ds l =>
      intro vs H1 n1
      rw [List.append_nil]
      exact call_end n1 q
    | exc y l => exact q
    | bad => exact q

/-! ### methods -/
def tMethSD (C : Addr) (m : Str) (sp : Sp) (E : L2.St → XK) (ta : TE) (t : TA) : TE := fun σ H Q => ta σ H fun x H1 => ∃ a dx fs, x = .ref a ∧ H1 a = some (.ins C dx fs) ∧ fs.lookup m = none ∧
  t σ H1 fun vs H2 => sp (x :: vs) H2 Q (E σ)
theorem pe_methSD {CX : CXT} {sp : Sp} {E : L2.St → XK} {ta : TE} {t : TA} {pl : Sem Bool} (he : PE X o ta) (c : Cls X.K C) (hm : Meth X.K C m f) (F : FnOk X.prog X.w X.K X.mg X.base CX k f fd ps sp) (hr : Room k X.A) (hb : Binds X.K fd ps []) (hx : ∀ σ, PassesAt CX X σ (E σ)) (ha : PA X (e :: es) t)
    (hst : starEach (e :: es) X.env = (false, eval e X.env) :: starEach es X.env := by rfl) (hpl : (backTo pos (starEach es X.env)).any (·.1) = false := by rfl)
    (ht : eval (.Call (.Attribute o m apos) (e :: es) [] pos) X.env = (do
      let ov ← eval o X.env
      standAt apos.atName
      let (f, first) ← holding [ov] (getMethod ov m pl)
      callWith pos f first (backTo pos (starEach (e :: es) X.env)) (backToKw pos (keywordEach [] X.env))) := by rfl) :
    PE X (.Call (.Attribute o m apos) (e :: es) [] pos) (tMethSD C m sp E ta t) := by
  refine ⟨fun pins s σ H Q I h => ?_⟩
  refine PySem.W.methodCall_KW (pl := pl) (thn (he.run pins s σ H _ I h) fun u s1 ⟨x, H1, I1, rx, a, dx, fs, ex, ea, l, q⟩ => ?_) ht
  subst ex
  obtain rfl : u = Value.ref a := rx
  refine getmeth_ok I1 ea c hm l ?_
  refine PySem.W.callWith_K (first := [.ref a]) (h₀ := X.base) I.ok.mod.kin hm.kp (thn (ha.run pos pins s1 σ H1 _ I1 q) fun us s2 ⟨vs, H2, I2, r, q2⟩ => ⟨I2.kIn, ?_⟩) hst hpl
  exact run_fnSD (us := .ref a :: us) (vs := .ref a :: vs) (dvs := []) F hr hb .nil (hx σ) I2 (.cons rfl r) (by rw [List.append_nil]; exact q2)
theorem pe_methSD0 {CX : CXT} {sp : Sp} {E : L2.St → XK} {ta : TE} {pl : Sem Bool} (he : PE X o ta) (c : Cls X.K C) (hm : Meth X.K C m f) (F : FnOk X.prog X.w X.K X.mg X.base CX k f fd ps sp) (hr : Room k X.A) (hb : Binds X.K fd ps []) (hx : ∀ σ, PassesAt CX X σ (E σ))
    (ht : eval (.Call (.Attribute o m apos) [] [] pos) X.env = (do
      let ov ← eval o X.env
      standAt apos.atName
      let (f, first) ← holding [ov] (getMethod ov m pl)
      callWith pos f first (backTo pos (starEach [] X.env)) (backToKw pos (keywordEach [] X.env))) := by rfl) :
    PE X (.Call (.Attribute o m apos) [] [] pos) (tMethSD C m sp E ta tNil) := by
  refine ⟨fun pins s σ H Q I h => ?_⟩
  refine PySem.W.methodCall_KW (pl := pl) (thn (he.run pins s σ H _ I h) fun u s1 ⟨x, H1, I1, rx, a, dx, fs, ex, ea, l, q⟩ => ?_) ht
  subst ex
  obtain rfl : u = Value.ref a := rx
  refine getmeth_ok I1 ea c hm l ?_
  exact PySem.W.callWith_K0 (first := [.ref a]) I1.kIn hm.kp (run_fnSD (us := [.ref a]) (vs := [.ref a]) (dvs := []) F hr hb .nil (hx σ) I1 (.cons rfl .nil) (by rw [List.append_nil]; exact q))
/-- a name's instance of the class at C that has no attribute m -/
def insAt (C : Addr) (m : Str) (l : Loc) : D → Bool
  | .brw i => match l[i]? with
    | some (some (.obj C' fs)) => decide (C' = C) && (fs.lookup m).isNone
    | _ => false
  | _ => false
def mMeth (C : Addr) (m : Str) (fl : List Bool) (mf : List D → RF) (mo : M D) (ms : M (List D)) : M D := fun l => match mo l with
  | .ok d l1 => if insAt C m l1 d then mCall fl mf (mCons (mC d) ms) l1 else .bad
  | r => r
theorem lookup_none {K : PySem.W.Frag} {H : Hp} {n : Str} : ∀ {fs fvs fp}, ROf K H fs fvs fp → (fs.lookup n).isNone = true → fvs.lookup n = none
  | _, _, _, .nil, _ => rfl
  | _, _, _, .cons (n := k) h r, e => by
    by_cases hk : n = k
    · subst hk
      simp [List.lookup] at e
    · have hb : (n == k) = false := beq_eq_false_iff_ne.mpr hk
      simp only [List.lookup, hb] at e ⊢
      exact lookup_none r e
theorem ins_of {K : PySem.W.Frag} {σ f0 H0 l H v d} (n : Now K σ f0 H0 [d] [v] l H) (h : insAt C m l d = true) : ∃ i a dx fvs, d = .brw i ∧ v = .ref a ∧ H a = some (.ins C dx fvs) ∧ fvs.lookup m = none := by
  unfold insAt at h
  split at h
  · rename_i i
    split at h
    · rename_i C' fs he
      obtain ⟨h1, h2⟩ := Bool.and_eq_true_iff.mp h
      have h1 : C' = C := of_decide_eq_true h1
      subst h1
      obtain ⟨ft, fq, z1, z2, z3, z4⟩ := n
      obtain ⟨es, rfl⟩ := brw_of z1.one_of
      obtain ⟨w, f1, f2, y1, y2, y3, y4⟩ := z2.take he
      rw [es] at y1
      cases y1
      obtain ⟨a, dx, fvs, f3, rfl, _, e1, e2⟩ := obj_of y2
      exact ⟨i, a, dx, fvs, rfl, rfl, e1, lookup_none e2 h2⟩
    · cases h
  · cases h
theorem em_meth {pl : Sem Bool} (he : PE X o (tE X.K W mo)) (c : Cls X.K C) (hm : Meth X.K C m f) (F : FnOk X.prog X.w X.K X.mg X.base (L2.CX X.prog X.w) k f fd ps (spM X.K fl mf)) (tk : Takes X W) (hr : Room k X.A) (hb : Binds X.K fd ps []) (ha : PA X (e :: es) (tA X.K W ms))
    (hst : starEach (e :: es) X.env = (false, eval e X.env) :: starEach es X.env := by rfl) (hpl : (backTo pos (starEach es X.env)).any (·.1) = false := by rfl)
    (ht : eval (.Call (.Attribute o m apos) (e :: es) [] pos) X.env = (do
      let ov ← eval o X.env
      standAt apos.atName
      let (f, first) ← holding [ov] (getMethod ov m pl)
      callWith pos f first (backTo pos (starEach (e :: es) X.env)) (backToKw pos (keywordEach [] X.env))) := by rfl) :
    PE X (.Call (.Attribute o m apos) (e :: es) [] pos) (tE X.K W (mMeth C m fl mf mo ms)) :=
  PEi (pe_methSD he c hm F hr hb (fun σ => passAt tk σ) ha hst hpl ht) fun σ H Q h => by
    obtain ⟨loc, fp, N, q⟩ := tE_in h
    refine seqE N ?_
    unfold mMeth at q
    generalize mo loc = r at q ⊢
    cases r with
    | ok d l =>
      intro v H1 n1
      dsimp only at q
      split at q
      · rename_i hi
        obtain ⟨i, a, dx, fvs, rfl, rfl, e1, e2⟩ := ins_of n1 hi
        refine ⟨a, dx, fvs, rfl, e1, e2, ?_⟩
        refine seqA n1 ?_
        unfold mCall mCons mC at q
        dsimp only at q
        generalize ms l = r2 at q ⊢
        cases r2 with
        | ok ds l2 =>
          intro vs H2 n2
          have n3 : Now X.K σ fp H (.brw i :: ds) (.ref a :: vs) l2 H2 := n2
          exact call_end n3 q
        | exc y l2 => exact q
        | bad => exact q
      · exact q.elim
    | exc y l => exact q
    | bad => exact q
theorem em_meth0 {pl : Sem Bool} (he : PE X o (tE X.K W mo)) (c : Cls X.K C) (hm : Meth X.K C m f) (F : FnOk X.prog X.w X.K X.mg X.base (L2.CX X.prog X.w) k f fd ps (spM X.K fl mf)) (tk : Takes X W) (hr : Room k X.A) (hb : Binds X.K fd ps [])
    (ht : eval (.Call (.Attribute o m apos) [] [] pos) X.env = (do
      let ov ← eval o X.env
      standAt apos.atName
      let (f, first) ← holding [ov] (getMethod ov m pl)
      callWith pos f first (backTo pos (starEach [] X.env)) (backToKw pos (keywordEach [] X.env))) := by rfl) :
    PE X (.Call (.Attribute o m apos) [] [] pos) (tE X.K W (mMeth C m fl mf mo mNil)) :=
  PEi (pe_methSD0 he c hm F hr hb (fun σ => passAt tk σ) ht) fun σ H Q h => by
    obtain ⟨loc, fp, N, q⟩ := tE_in h
    refine seqE N ?_
    unfold mMeth at q
    generalize mo loc = r at q ⊢
    cases r with
    | ok d l =>
      intro v H1 n1
      dsimp only at q
      split at q
      · rename_i hi
        obtain ⟨i, a, dx, fvs, rfl, rfl, e1, e2⟩ := ins_of n1 hi
        refine ⟨a, dx, fvs, rfl, e1, e2, ?_⟩
        unfold mCall mCons mC mNil at q
        have n3 : Now X.K σ fp H [.brw i] [.ref a] l H1 := n1
        exact call_end n3 q
      · exact q.elim
    | exc y l => exact q
    | bad => exact q
end
end FM

set_option maxHeartbeats 1000000
/-! FM8: statements. -/
namespace FM
open PySem L2
abbrev Pin := Nat → Option V
def Pinned (pin : Pin) (σ : L2.St) : Prop := ∀ i v, pin i = some v → σ[i]? = some (some v)
theorem Pinned.set {pin : Pin} {σ : L2.St} {i : Nat} {v : V} (h : Pinned pin σ) (hi : pin i = none) : Pinned pin (σ.set i (some v)) := fun j w e => by
  rw [List.getElem?_set_ne (by rintro rfl; rw [hi] at e; cases e)]
  exact h j w e
inductive RS where
  | nx (l : Loc) | rt (d : D) (l : Loc) | bk (l : Loc) | ct (l : Loc) | exc (x : Exn) (l : Loc) | bad
abbrev MS := Loc → RS
def NowS (K : PySem.W.Frag) (pin : Pin) (f0 : List Addr) (H0 : Hp) (loc : Loc) (σ : L2.St) (H : Hp) : Prop := ∃ fp, RL K H loc σ fp ∧ fp.Nodup ∧ Tr f0 H0 fp H ∧ Pinned pin σ
def PostS (K : PySem.W.Frag) (W : WX) (pin : Pin) (f0 : List Addr) (H0 : Hp) (D : Ends) : RS → Prop
  | .nx l => ∀ σ H, NowS K pin f0 H0 l σ H → D.nx σ H
  | .bk l => ∀ σ H, NowS K pin f0 H0 l σ H → D.bk σ H
  | .ct l => ∀ σ H, NowS K pin f0 H0 l σ H → D.ct σ H
  | .rt d l => ∀ v σ H fd fp, RO K H d v fd → RL K H l σ fp → (fd ++ fp).Nodup → Tr f0 H0 (fd ++ fp) H → Pinned pin σ → D.rt v H
  | .exc x l => ∀ cls dd σ H, NowS K pin f0 H0 l σ H → RX K H x cls dd → W cls dd σ H
  | .bad => False
def tS (K : PySem.W.Frag) (W : WX) (pin : Pin) (m : MS) : TS := fun D σ H => ∃ loc fp, RL K H loc σ fp ∧ fp.Nodup ∧ Pinned pin σ ∧ PostS K W pin fp H D (m loc)
section
variable {K : PySem.W.Frag} {W : WX} {pin : Pin} {f0 : List Addr} {H0 H : Hp} {loc : Loc} {σ : L2.St} {D : Ends} {m : MS}
theorem nowS0 {fp} (hl : RL K H loc σ fp) (nd : fp.Nodup) (hp : Pinned pin σ) : NowS K pin fp H loc σ H := ⟨fp, hl, nd, .refl _ _, hp⟩
theorem NowS.on {fp} {loc2 σ2 H2} (tr : Tr f0 H0 fp H) (n : NowS K pin fp H loc2 σ2 H2) : NowS K pin f0 H0 loc2 σ2 H2 := by
  obtain ⟨f2, a, b, c, d⟩ := n
  exact ⟨f2, a, b, tr.trans c, d⟩
theorem seqS (N : NowS K pin f0 H0 loc σ H) (p : PostS K W pin f0 H0 D (m loc)) : tS K W pin m D σ H := by
  obtain ⟨fp, hl, nd, tr, hp⟩ := N
  refine ⟨loc, fp, hl, nd, hp, ?_⟩
  generalize m loc = r at p ⊢
  cases r with
  | nx l => exact fun σ' H' n => p σ' H' (n.on tr)
  | bk l => exact fun σ' H' n => p σ' H' (n.on tr)
  | ct l => exact fun σ' H' n => p σ' H' (n.on tr)
  | rt d l => exact fun v σ' H' fd fp a b c e g => p v σ' H' fd fp a b c (tr.trans e) g
  | exc x l => exact fun cls dd σ' H' n hx => p cls dd σ' H' (n.on tr) hx
  | bad => exact p
theorem tS_in (h : tS K W pin m D σ H) : ∃ loc fp, NowS K pin fp H loc σ H ∧ PostS K W pin fp H D (m loc) := by
  obtain ⟨loc, fp, hl, nd, hp, p⟩ := h
  exact ⟨loc, fp, nowS0 hl nd hp, p⟩
/-- from a statement into an expression: what the expression leaves -/
theorem seqSE {me : M FM.D} {Q : VK} (N : NowS K pin f0 H0 loc σ H) (p : match me loc with
    | .ok d l => ∀ v H' fd fp, RV K H' σ d v fd → RL K H' l σ fp → (fd ++ fp).Nodup → Tr f0 H0 (fd ++ fp) H' → Pinned pin σ → Q v H'
    | .exc x l => ∀ cls dd H', NowS K pin f0 H0 l σ H' → RX K H' x cls dd → W cls dd σ H'
    | .bad => False) : tE K W me σ H Q := by
  obtain ⟨fp, hl, nd, tr, hp⟩ := N
  refine ⟨loc, fp, hl, nd, ?_⟩
  generalize me loc = r at p ⊢
  cases r with
  | ok d l =>
    intro v H' n
    obtain ⟨ft, fq, z1, z2, z3, z4⟩ := n
    exact p v H' ft fq z1.one_of z2 z3 (tr.trans z4) hp
  | exc x l =>
    intro cls dd H' n hx
    obtain ⟨ft, fq, z1, z2, z3, z4⟩ := n
    cases z1
    exact p cls dd H' ⟨fq, z2, z3, tr.trans z4, hp⟩ hx
  | bad => exact p
theorem seqST {me : M Bool} {Q : Bool → Hp → Prop} (N : NowS K pin f0 H0 loc σ H) (p : match me loc with
    | .ok b l => ∀ H', NowS K pin f0 H0 l σ H' → Q b H'
    | .exc x l => ∀ cls dd H', NowS K pin f0 H0 l σ H' → RX K H' x cls dd → W cls dd σ H'
    | .bad => False) : tT K W me σ H Q := by
  obtain ⟨fp, hl, nd, tr, hp⟩ := N
  refine ⟨loc, fp, hl, nd, ?_⟩
  generalize me loc = r at p ⊢
  cases r with
  | ok d l =>
    intro H' n
    obtain ⟨ft, fq, z1, z2, z3, z4⟩ := n
    cases z1
    exact p H' ⟨fq, z2, z3, tr.trans z4, hp⟩
  | exc x l =>
    intro cls dd H' n hx
    obtain ⟨ft, fq, z1, z2, z3, z4⟩ := n
    cases z1
    exact p cls dd H' ⟨fq, z2, z3, tr.trans z4, hp⟩ hx
  | bad => exact p
/-- a value goes into a name -/
theorem put_slot {d : FM.D} {v : V} {fd fp : List Addr} {i : Nat} (h : RO K H d v fd) (hl : RL K H loc σ fp) (nd : (fd ++ fp).Nodup) (tr : Tr f0 H0 (fd ++ fp) H) (hp : Pinned pin σ) (hi : pin i = none) : NowS K pin f0 H0 (loc.set i (some d)) (σ.set i (some v)) H := by
  obtain ⟨n1, n2, n3⟩ := List.nodup_append.mp nd
  by_cases hlt : i < loc.length
  · obtain ⟨f1, f2, u1, u2⟩ := hl.drop i
    have e : (loc.set i none)[i]? = some none := List.getElem?_set_self hlt
    obtain ⟨f, w1, w2⟩ := RL.put h u1 e
    rw [List.set_set] at w1
    have m2 := (List.nodup_append.mp (u2.nodup_iff.mp n2)).2.1
    refine ⟨f, w1, w2.nodup_iff.mpr (List.nodup_append.mpr ⟨n1, m2, fun a ha b hb e => n3 a ha b (u2.mem_iff.mpr (List.mem_append_right _ hb)) e⟩), ?_, hp.set hi⟩
    exact tr.less fun x hx => by
      rcases List.mem_append.mp (w2.mem_iff.mp hx) with z | z
      · exact List.mem_append_left _ z
      · exact List.mem_append_right _ (u2.mem_iff.mpr (List.mem_append_right _ z))
  · have e1 : loc.set i (some d) = loc := List.set_eq_of_length_le (by omega)
    have e2 : σ.set i (some v) = σ := List.set_eq_of_length_le (by rw [← hl.length]; omega)
    rw [e1, e2]
    exact ⟨fp, hl, n2, tr.less fun x hx => List.mem_append_right _ hx, hp⟩
end

/-! ### blocks -/
def mNop : MS := fun l => .nx l
def mSeq (a b : MS) : MS := fun l => match a l with
  | .nx l1 => b l1
  | r => r
def mBad : MS := fun _ => .bad
def mSet (i : Nat) (m : M D) : MS := fun l => match m l with
  | .ok (.brw _) _ => .bad
  | .ok d l1 => .nx (l1.set i (some d))
  | .exc x l1 => .exc x l1
  | .bad => .bad
def mRet (m : M D) : MS := fun l => match m l with
  | .ok (.brw _) _ => .bad
  | .ok d l1 => .rt d l1
  | .exc x l1 => .exc x l1
  | .bad => .bad
def mRetN : MS := fun l => .rt .non l
def mExpr (m : M D) : MS := fun l => match m l with
  | .ok _ l1 => .nx l1
  | .exc x l1 => .exc x l1
  | .bad => .bad
def mIfS (t : M Bool) (a b : MS) : MS := fun l => match t l with
  | .ok true l1 => a l1
  | .ok false l1 => b l1
  | .exc x l1 => .exc x l1
  | .bad => .bad
def mBrk : MS := fun l => .bk l
def mCnt : MS := fun l => .ct l
section
variable {X : Cx} {W : WX} {pin : Pin} {st : Stmt} {rest : List Stmt} {m m2 : MS} {e : Expr} {me : M D} {mt : M Bool} {pos : Pos}
theorem sm_nil : PSs X [] (tS X.K W pin mNop) := PSsi pss_nil fun σ H D h => by
  obtain ⟨loc, fp, N, p⟩ := tS_in h
  exact p σ H N
theorem sm_cons (h1 : PS X st (tS X.K W pin m)) (h2 : PSs X rest (tS X.K W pin m2)) : PSs X (st :: rest) (tS X.K W pin (mSeq m m2)) := PSsi (pss_cons h1 h2) fun σ H D h => by
  obtain ⟨loc, fp, N, p⟩ := tS_in h
  refine seqS N ?_
  unfold mSeq at p
  generalize m loc = r at p ⊢
  cases r with
  | nx l => exact fun σ' H' n => seqS n p
  | bk l => exact p
  | ct l => exact p
  | rt d l => exact p
  | exc x l => exact p
  | bad => exact p
theorem sm_one (h1 : PS X st (tS X.K W pin m)) : PSs X [st] (tS X.K W pin m) := pss_one h1
theorem sm_never : PS X st (tS X.K W pin mBad) := PSi ps_never fun σ H D h => by
  obtain ⟨loc, fp, N, p⟩ := tS_in h
  exact p
theorem sms_never {sts : List Stmt} : PSs X sts (tS X.K W pin mBad) := PSsi pss_never fun σ H D h => by
  obtain ⟨loc, fp, N, p⟩ := tS_in h
  exact p
theorem sm_pass : PS X (.Pass pos) (tS X.K W pin mNop) := PSi ps_pass fun σ H D h => by
  obtain ⟨loc, fp, N, p⟩ := tS_in h
  exact p σ H N
theorem sm_brk : PS X (.Break pos) (tS X.K W pin mBrk) := PSi ps_break fun σ H D h => by
  obtain ⟨loc, fp, N, p⟩ := tS_in h
  exact p σ H N
theorem sm_cnt : PS X (.Continue pos) (tS X.K W pin mCnt) := PSi ps_continue fun σ H D h => by
  obtain ⟨loc, fp, N, p⟩ := tS_in h
  exact p σ H N
theorem set_in {i : Nat} (hp : pin i = none) {σ H D} (h : tS X.K W pin (mSet i me) D σ H) : tAsg (tE X.K W me) (gName i) D σ H := by
  obtain ⟨loc, fp, N, p⟩ := tS_in h
  refine seqSE N ?_
  unfold mSet at p
  generalize me loc = r at p ⊢
  cases r with
  | ok d l =>
    intro v H' fd fq a b c t hpn
    have nb : ∀ j, d ≠ .brw j := fun j e => by
      subst e
      exact p
    have p : PostS X.K W pin fp H D (.nx (l.set i (some d))) := by
      cases d <;> first | exact p | exact absurd rfl (nb _)
    exact p _ _ (put_slot (rv_ro a nb) b c t hpn hp)
  | exc x l => exact fun cls dd H' n hx => p cls dd σ H' n hx
  | bad => exact p
theorem sm_set {i : Nat} {x : Str} {pos' : Pos} (hN : X.N.Nodup) (hi : X.N[i]? = some x) (hx : L2.Loc X.env.scope x) (hp : pin i = none) (he : PE X e (tE X.K W me)) (hs : swapsWith e (some (.Name x pos')) pos.line X.env = pure false := by rfl) (hf : X.fn x = true ∨ X.env.scope.names.lookup x = some .local := by first | exact .inl rfl | exact .inr rfl | assumption) :
    PS X (.Assign [.Name x pos'] e pos) (tS X.K W pin (mSet i me)) := PSi (ps_set hN hi hx he hs hf) fun σ H D h => set_in hp h
theorem sm_ret (he : PE X e (tE X.K W me)) : PS X (.Return (some e) pos) (tS X.K W pin (mRet me)) := PSi (ps_ret he) fun σ H D h => by
  obtain ⟨loc, fp, N, p⟩ := tS_in h
  refine seqSE N ?_
  unfold mRet at p
  generalize me loc = r at p ⊢
  cases r with
  | ok d l =>
    intro v H' fd fq a b c t hpn
    have nb : ∀ j, d ≠ .brw j := fun j e => by
      subst e
      exact p
    have p : PostS X.K W pin fp H D (.rt d l) := by
      cases d <;> first | exact p | exact absurd rfl (nb _)
    exact p v σ H' fd fq (rv_ro a nb) b c t hpn
  | exc x l => exact fun cls dd H' n hx => p cls dd σ H' n hx
  | bad => exact p
theorem sm_retN : PS X (.Return none pos) (tS X.K W pin mRetN) := PSi ps_retN fun σ H D h => by
  obtain ⟨loc, fp, N, p⟩ := tS_in h
  obtain ⟨fq, hl, nd, tr, hp⟩ := N
  exact p .non σ H [] fq (.imm .non) hl nd tr hp
theorem sm_expr (he : PE X e (tE X.K W me)) (hs : swapsWith e none pos.line X.env = pure false := by rfl) : PS X (.Expr e pos) (tS X.K W pin (mExpr me)) := PSi (ps_expr he hs) fun σ H D h => by
  obtain ⟨loc, fp, N, p⟩ := tS_in h
  refine seqSE N ?_
  unfold mExpr at p
  generalize me loc = r at p ⊢
  cases r with
  | ok d l => exact fun v H' fd fq a b c t hpn => p σ H' ⟨fq, b, (List.nodup_append.mp c).2.1, t.less fun x hx => List.mem_append_right _ hx, hpn⟩
  | exc x l => exact fun cls dd H' n hx => p cls dd σ H' n hx
  | bad => exact p
theorem sm_if {c : Expr} {a b : List Stmt} (hc : PT X c (tT X.K W mt)) (ha : PSs X a (tS X.K W pin m)) (hb : PSs X b (tS X.K W pin m2)) : PS X (.If c a b pos) (tS X.K W pin (mIfS mt m m2)) := PSi (ps_if hc ha hb) fun σ H D h => by
  obtain ⟨loc, fp, N, p⟩ := tS_in h
  refine seqST N ?_
  unfold mIfS at p
  generalize mt loc = r at p ⊢
  cases r with
  | ok k l =>
    intro H' n
    cases k with
    | true =>
      rw [if_pos rfl]
      exact seqS n p
    | false =>
      rw [if_neg Bool.false_ne_true]
      exact seqS n p
  | exc x l => exact fun cls dd H' n hx => p cls dd σ H' n hx
  | bad => exact p

/-! ### targets -/
abbrev MG := D → Loc → Option Loc
def tG (K : PySem.W.Frag) (pin : Pin) (js : List Nat) (t : MG) : TG := fun v σ H Q => ∃ d loc loc' fp, RI K H d v ∧ RL K H loc σ fp ∧ fp.Nodup ∧ Pinned pin σ ∧ t d loc = some loc' ∧
  ∀ σ' fp', RL K H loc' σ' fp' → fp'.Nodup → (∀ a ∈ fp', a ∈ fp) → Pinned pin σ' → σ'.length = σ.length → (∀ j, j ∉ js → σ'[j]? = σ[j]?) → Q σ' H
def gN (i : Nat) : MG := fun d l => some (l.set i (some d))
theorem PGi {tg : Expr} {t t' : TG} (p : PG X tg t) (h : ∀ v σ H Q, t' v σ H Q → t v σ H Q) : PG X tg t' := ⟨fun pins s σ H v u Q I r q => p.run pins s σ H v u Q I r (h v σ H Q q)⟩
theorem gm_name {i : Nat} {x : Str} (hN : X.N.Nodup) (hi : X.N[i]? = some x) (hx : L2.Loc X.env.scope x) (hp : pin i = none) (hf : X.fn x = true ∨ X.env.scope.names.lookup x = some .local := by first | exact .inl rfl | exact .inr rfl | assumption) : PG X (.Name x pos) (tG X.K pin [i] (gN i)) :=
  PGi (pg_name hN hi hx hf) fun v σ H Q h => by
    obtain ⟨d, loc, loc', fp, hr, hl, nd, hpn, e, q⟩ := h
    cases e
    obtain ⟨fp', a, b, c, g⟩ := put_slot (f0 := fp) (H0 := H) (RO.imm hr) hl nd (Tr.refl fp H) hpn hp
    exact q _ fp' a b (fun x hx => by
      have e := hl.there' x
      rcases c.new x hx with z | z
      · exact z
      · obtain ⟨o, eo⟩ := a.there' x hx
        rw [eo] at z
        cases z) g (by rw [List.length_set]) (fun j hj => List.getElem?_set_ne (by rintro rfl; exact hj List.mem_cons_self))
def tGs (K : PySem.W.Frag) (pin : Pin) (js : List Nat) (t : List D → Loc → Option Loc) : TGs := fun vs σ H Q => ∃ ds loc loc' fp, RIs K H ds vs ∧ RL K H loc σ fp ∧ fp.Nodup ∧ Pinned pin σ ∧ t ds loc = some loc' ∧
  ∀ σ' fp', RL K H loc' σ' fp' → fp'.Nodup → (∀ a ∈ fp', a ∈ fp) → Pinned pin σ' → σ'.length = σ.length → (∀ j, j ∉ js → σ'[j]? = σ[j]?) → Q σ' H
def gsNil : List D → Loc → Option Loc
  | [], l => some l
  | _ :: _, _ => none
def gsCons (t : MG) (ts : List D → Loc → Option Loc) : List D → Loc → Option Loc
  | d :: ds, l => (t d l).bind (ts ds)
  | [], _ => none
def gT (n : Nat) (ts : List D → Loc → Option Loc) : MG := fun d l => match d with
  | .tup ds => if ds.length = n then ts ds l else none
  | _ => none
theorem PGsi {tg : List Expr} {t t' : TGs} (p : PGs X tg t) (h : ∀ v σ H Q, t' v σ H Q → t v σ H Q) : PGs X tg t' := ⟨fun pins s σ H v u Q I r q => p.run pins s σ H v u Q I r (h v σ H Q q)⟩
theorem gsm_nil : PGs X [] (tGs X.K pin [] gsNil) := PGsi pgs_nil fun vs σ H Q h => by
  obtain ⟨ds, loc, loc', fp, hr, hl, nd, hpn, e, q⟩ := h
  cases hr with
  | nil =>
    cases e
    exact ⟨rfl, q σ fp hl nd (fun _ h => h) hpn rfl (fun _ _ => rfl)⟩
  | cons h r => cases e
theorem gsm_cons {e : Expr} {es : List Expr} {t : MG} {ts : List D → Loc → Option Loc} {j1 j2 : List Nat} (h1 : PG X e (tG X.K pin j1 t)) (h2 : PGs X es (tGs X.K pin j2 ts))
    (hs : (assignEach (e :: es) X.env).map (·.2) = assign e X.env :: (assignEach es X.env).map (·.2) := by rfl) : PGs X (e :: es) (tGs X.K pin (j1 ++ j2) (gsCons t ts)) := PGsi (pgs_cons h1 h2 hs) fun vs σ H Q h => by
  obtain ⟨ds, loc, loc', fp, hr, hl, nd, hpn, e, q⟩ := h
  cases hr with
  | nil => cases e
  | cons h r =>
    obtain ⟨l1, e1, e2⟩ := Option.bind_eq_some_iff.mp e
    refine ⟨_, _, rfl, _, loc, l1, fp, h, hl, nd, hpn, e1, fun σ' fp' a b c g hle hj => ?_⟩
    exact ⟨_, l1, loc', fp', r, a, b, g, e2, fun σ2 fp2 a2 b2 c2 g2 hl2 hj2 => q σ2 fp2 a2 b2 (fun x hx => c x (c2 x hx)) g2 (hl2.trans hle) (fun j hn => (hj2 j fun z => hn (List.mem_append_right _ z)).trans (hj j fun z => hn (List.mem_append_left _ z)))⟩
theorem gm_tup {es : List Expr} {k : Nat} {ts : List D → Loc → Option Loc} {n : Nat} {js : List Nat} (hc : X.calm = true) (h : PGs X es (tGs X.K pin js ts))
    (hn : (assignEach es X.env).length = n := by rfl) (hst : (assignEach es X.env).findIdx? (·.1) = none := by rfl) : PG X (.Tuple es k pos) (tG X.K pin js (gT n ts)) := PGi (pg_tup hc h hn hst) fun v σ H Q h => by
  obtain ⟨d, loc, loc', fp, hr, hl, nd, hpn, e, q⟩ := h
  unfold gT at e
  split at e
  · rename_i ds
    split at e
    · rename_i hlen
      cases hr with
      | tup h1 h2 => exact ⟨_, _, rfl, h1, by rw [← h2.length]; exact hlen, ds, loc, loc', fp, h2, hl, nd, hpn, e, q⟩
    · cases e
  · cases e
/-- target = value -/
def mAsg (t : MG) (m : M D) : MS := fun l => match m l with
  | .ok d l1 => if isImm d then (match t d l1 with
    | some l2 => .nx l2
    | none => .bad) else .bad
  | .exc x l1 => .exc x l1
  | .bad => .bad
theorem sm_asg {tg : Expr} {t : MG} {js : List Nat} (he : PE X e (tE X.K W me)) (hg : PG X tg (tG X.K pin js t)) (hs : swapsWithSole [tg] e pos.line X.env = pure false := by rfl) (hw : swappedStores [tg] e X.env = pure none := by rfl)
    (h1 : (assignEach [tg] X.env).map (·.2) = [assign tg X.env] := by rfl) : PS X (.Assign [tg] e pos) (tS X.K W pin (mAsg t me)) := PSi (ps_asg he hg hs hw h1) fun σ H D h => by
  obtain ⟨loc, fp, N, p⟩ := tS_in h
  refine seqSE N ?_
  unfold mAsg at p
  generalize me loc = r at p ⊢
  cases r with
  | ok d l =>
    intro v H' fd fq a b c t' hpn
    dsimp only at p
    split at p
    · rename_i hi
      split at p
      · rename_i l2 e2
        exact ⟨d, l, l2, fq, imm_ri a hi, b, (List.nodup_append.mp c).2.1, hpn, e2, fun σ' fp' a2 b2 c2 g2 _ _ => p σ' H' ⟨fp', a2, b2, t'.less fun x hx => List.mem_append_right _ (c2 x hx), g2⟩⟩
      · exact p.elim
    · exact p.elim
  | exc x l => exact fun cls dd H' n hx => p cls dd σ H' n hx
  | bad => exact p
end
end FM

set_option maxHeartbeats 1000000
/-! FM9: loops, comprehensions. -/
namespace FM
open PySem PySem.Spec PyProof.Rows L2
/-! ### what is walked -/
/-- a sequence or a text, whichever comes -/
def iSeq (K : PySem.W.Frag) (tl : TE) : TI := fun σ H R => tl σ H fun x H1 => (∃ a, x = .ref a ∧ (∃ xs, SqL K H1 a xs) ∧ R (Itl K a) H1) ∨ (∃ a, x = .ref a ∧ (∃ xs, SqT K H1 a xs) ∧ R (Itt K a) H1) ∨ ∃ z, x = .str z ∧ R (Its z) H1
theorem pi_seq {X : Cx} {tg l : Expr} {tl : TE} (hl : PE X l tl) : PI X tg l (iSeq X.K tl) := by
  refine ⟨fun pins s σ H R I h => ?_⟩
  refine thn (hl.run pins s σ H _ I h) fun v s1 ⟨x, H1, I1, r1, q1⟩ => ?_
  rcases q1 with ⟨a, e, ⟨xs, hq⟩, q⟩ | ⟨a, e, ⟨xs, hq⟩, q⟩ | ⟨z, e, q⟩
  · subst e
    cases r1
    obtain ⟨its, rv, p, hz⟩ := I1.list hq
    refine wpAny_pyIter_list p.isList ?_
    refine ⟨s1.heap.objs.size, [s1.heap.objs.size], _, _, H1, rfl, I1.kept (t' := s1.toks) fun b o e => Heap.get?_push_of_some _ e, turn_list a _, ⟨_, Heap.get?_push_size _ rfl, rfl, rfl⟩, fun b hb => ?_, q⟩
    have e : b = s1.heap.objs.size := by simpa using hb
    subst e
    exact I1.fpOk (Nat.le_refl _) (I1.hok.fresh (Nat.le_refl _))
  · subst e
    cases r1
    obtain ⟨its, rv, p, hz⟩ := I1.tuple hq
    refine wpAny_pyIter_tuple (show s1.heap.IsTuple a its.toArray from p) ?_
    refine ⟨s1.heap.objs.size, [s1.heap.objs.size], _, _, H1, rfl, I1.kept (t' := s1.toks) fun b o e => Heap.get?_push_of_some _ e, turn_tuple a _, ⟨_, Heap.get?_push_size _ rfl, rfl, rfl⟩, fun b hb => ?_, q⟩
    have e : b = s1.heap.objs.size := by simpa using hb
    subst e
    exact I1.fpOk (Nat.le_refl _) (I1.hok.fresh (Nat.le_refl _))
  · subst e
    obtain ⟨t, rfl⟩ := r1
    cases ha : z.cps.all (· < 128)
    · exact wpAny_pyIter_wide ha (pi_one (tk := s1.toks) I1 _ (turn_str _ z t "str_iterator" (.inr rfl)) ⟨_, Heap.get?_push_size _ rfl, rfl, rfl⟩ q)
    · exact wpAny_pyIter_ascii ha (pi_one (tk := s1.toks) I1 _ (turn_str _ z t "str_ascii_iterator" (.inl rfl)) ⟨_, Heap.get?_push_size _ rfl, rfl, rfl⟩ q)
/-- J goes through the items, whatever becomes of the heap while what stays stays -/
def Walks (K : PySem.W.Frag) (J : It) (items : List D) (H0 : Hp) : Prop := ∃ G Y, Walk J items.length G Y ∧ (∀ H, Kp H0 H → G H) ∧
  ∀ i H x H', i < items.length → Kp H0 H → Y i H x H' → H' = H ∧ ∃ d, items[i]? = some d ∧ RI K H d x
theorem walks_list {K : PySem.W.Frag} {a : Addr} {vs : List V} {ds : List D} {H0 : Hp} (h : FzL K H0 a vs) (r : RIs K H0 ds vs) : Walks K (Itl K a) ds H0 := by
  refine ⟨_, _, by rw [r.length]; exact walk_list (K := K) (a := a) (xs := vs), fun H k => (h.keep k).sq, fun i H x H' hi k y => ?_⟩
  obtain ⟨y1, y2⟩ := y
  obtain ⟨d, e1, e2⟩ := (r.keep k).getV y2
  exact ⟨y1, d, e1, e2⟩
theorem walks_tup {K : PySem.W.Frag} {a : Addr} {vs : List V} {ds : List D} {H0 : Hp} (h : SqT K H0 a vs) (r : RIs K H0 ds vs) : Walks K (Itt K a) ds H0 := by
  refine ⟨_, _, by rw [r.length]; exact walk_tup (K := K) (a := a) (xs := vs), fun H k => sqT_keep k h, fun i H x H' hi k y => ?_⟩
  obtain ⟨y1, y2⟩ := y
  obtain ⟨d, e1, e2⟩ := (r.keep k).getV y2
  exact ⟨y1, d, e1, e2⟩
theorem walks_str {K : PySem.W.Frag} {l : List Nat} {H0 : Hp} : Walks K (Its ⟨l.toArray⟩) (l.map fun c => .str [c]) H0 := by
  refine ⟨_, _, by rw [List.length_map]; exact walk_str (z := ⟨l.toArray⟩), fun H k => trivial, fun i H x H' hi k y => ?_⟩
  obtain ⟨y1, c, e1, rfl⟩ := y
  refine ⟨y1, .str [c], ?_, .str [c]⟩
  rw [List.getElem?_map]
  have : l[i]? = some c := by simpa using e1
  rw [this]
  rfl
def rangeD (lo : Int) (n : Nat) : List D := (List.range n).map fun i => .int (lo + (i : Nat))
theorem walks_range {K : PySem.W.Frag} {lo : Int} {n : Nat} {H0 : Hp} : Walks K (Itr lo n) (rangeD lo n) H0 := by
  refine ⟨_, _, by unfold rangeD; rw [List.length_map, List.length_range]; exact walk_range (lo := lo) (n := n), fun H k => trivial, fun i H x H' hi k y => ?_⟩
  obtain ⟨y1, rfl⟩ := y
  unfold rangeD at hi ⊢
  rw [List.length_map, List.length_range] at hi
  exact ⟨y1, .int (lo + (i : Nat)), by rw [List.getElem?_map, List.getElem?_range hi]; rfl, .int _⟩
def itemsOf : D → Option (List D)
  | .tup l => some l
  | .lst l => some l
  | .str l => some (l.map fun c => .str [c])
  | _ => none
def mIt (m : M D) : M (List D) := fun l => match m l with
  | .ok d l1 => (match itemsOf d with
    | some ds => .ok ds l1
    | none => .bad)
  | .exc x l1 => .exc x l1
  | .bad => .bad
/-- range(b); range(a, b) -/
def mRng1 (m : M D) : M (List D) := fun l => match m l with
  | .ok (.int j) l1 => if j.natAbs < 4611686018427387904 then .ok (rangeD 0 j.toNat) l1 else .bad
  | .exc x l1 => .exc x l1
  | _ => .bad
def two? : List D → Option (Int × Int)
  | [.int i, .int j] => if i.natAbs < 4611686018427387904 ∧ j.natAbs < 4611686018427387904 then some (i, j) else none
  | _ => none
theorem two?_of {ds : List D} {i j : Int} (h : two? ds = some (i, j)) : ds = [.int i, .int j] ∧ -(2 ^ 62) ≤ i ∧ i < 2 ^ 62 ∧ -(2 ^ 62) ≤ j ∧ j < 2 ^ 62 := by
  unfold two? at h
  split at h
  · split at h
    · rename_i hc
      cases h
      exact ⟨rfl, by omega⟩
    · cases h
  · cases h
def mRng2 (ms : M (List D)) : M (List D) := fun l => match ms l with
  | .ok ds l1 => (match two? ds with
    | some (i, j) => .ok (rangeD i (j - i).toNat) l1
    | none => .bad)
  | .exc x l1 => .exc x l1
  | .bad => .bad
def tI (K : PySem.W.Frag) (W : WX) (m : M (List D)) : TI := fun σ H R => ∃ loc fp, RL K H loc σ fp ∧ fp.Nodup ∧ match m loc with
  | .ok ds l => ∀ J H', Now K σ fp H [] [] l H' → Walks K J ds H' → R J H'
  | .exc x l => ∀ cls dd H', Now K σ fp H [] [] l H' → RX K H' x cls dd → W cls dd σ H'
  | .bad => False
theorem PIi {X : Cx} {tg e : Expr} {t t' : TI} (p : PI X tg e t) (h : ∀ σ H R, t' σ H R → t σ H R) : PI X tg e t' := ⟨fun pins s σ H R I q => p.run pins s σ H R I (h σ H R q)⟩
section
variable {X : Cx} {W : WX} {e a b tg : Expr} {me : M D} {ms : M (List D)} {p pos : Pos}
theorem im_seq (he : PE X e (tE X.K W me)) : PI X tg e (tI X.K W (mIt me)) := PIi (pi_seq he) fun σ H R h => by
  obtain ⟨loc, fp, hl, nd, p⟩ := h
  refine seqE (now0 hl nd) ?_
  unfold mIt at p
  generalize me loc = r at p ⊢
  cases r with
  | ok d l =>
    intro v H' n
    dsimp only at p
    have n2 := n
    obtain ⟨ft, fq, z1, z2, z3, z4⟩ := n2
    cases hd : itemsOf d with
    | none =>
      rw [hd] at p
      exact p.elim
    | some ds =>
      rw [hd] at p
      cases d with
      | tup l0 =>
        cases hd
        cases imm_ri z1.one_of rfl with
        | tup h1 h2 => exact .inr (.inl ⟨_, rfl, ⟨_, h1⟩, p _ _ n.none_of (walks_tup h1 h2)⟩)
      | lst l0 =>
        cases hd
        cases imm_ri z1.one_of rfl with
        | lst h1 h2 => exact .inl ⟨_, rfl, ⟨_, h1.sq⟩, p _ _ n.none_of (walks_list h1 h2)⟩
      | str l0 =>
        cases hd
        cases imm_ri z1.one_of rfl with
        | str _ => exact .inr (.inr ⟨_, rfl, p _ _ n.none_of walks_str⟩)
      | _ => cases hd
  | exc x l => exact p
  | bad => exact p
theorem now_int {K : PySem.W.Frag} {σ f0 H0 loc H i v} (n : Now K σ f0 H0 [.int i] [v] loc H) : v = .int i := by
  obtain ⟨ft, fp', z1, _⟩ := n
  exact ro_int (rv_ro z1.one_of (by intro i e; cases e))
theorem im_rng1 (hg : Gl X "range") (hm : X.mg "range" = none) (ha : PE X a (tE X.K W me)) (hs : starEach [a] X.env = [(false, eval a X.env)] := by rfl) : PI X tg (.Call (.Name "range" p) [a] [] pos) (tI X.K W (mRng1 me)) :=
  PIi (pi_range1 hg hm (pa_cons ha pa_nil hs) hs) fun σ H R h => by
    obtain ⟨loc, fp, hl, nd, p⟩ := h
    refine seqE (now0 hl nd) ?_
    unfold mRng1 at p
    generalize me loc = r at p ⊢
    cases r with
    | ok d l =>
      intro v H' n
      cases d with
      | int j =>
        obtain rfl := now_int n
        dsimp only at p
        by_cases hj : j.natAbs < 4611686018427387904
        · rw [if_pos hj] at p
          exact ⟨j, rfl, by omega, by omega, p _ _ n.none_of walks_range⟩
        · rw [if_neg hj] at p
          exact p.elim
      | _ => exact p.elim
    | exc x l => exact p
    | bad => exact p
theorem im_rng2 (hg : Gl X "range") (hm : X.mg "range" = none) (ha : PA X [a, b] (tA X.K W ms)) (hs : starEach [a, b] X.env = [(false, eval a X.env), (false, eval b X.env)] := by rfl) (hs2 : starEach [b] X.env = [(false, eval b X.env)] := by rfl) :
    PI X tg (.Call (.Name "range" p) [a, b] [] pos) (tI X.K W (mRng2 ms)) :=
  PIi (pi_range2 hg hm ha hs hs2) fun σ H R h => by
    obtain ⟨loc, fp, hl, nd, p⟩ := h
    refine seqA (now0 hl nd) ?_
    unfold mRng2 at p
    generalize ms loc = r at p ⊢
    cases r with
    | ok ds l =>
      intro vs H' n
      dsimp only at p
      cases hd : two? ds with
      | none =>
        rw [hd] at p
        exact p.elim
      | some q =>
        rw [hd] at p
        obtain ⟨i, j⟩ := q
        obtain ⟨rfl, hj⟩ := two?_of hd
        have n2 := n
        obtain ⟨ft, fq, z1, z2, z3, z4⟩ := n2
        cases z1 with
        | cons x1 r1 =>
          cases r1 with
          | cons x2 r2 =>
            cases r2
            obtain rfl := ro_int (rv_ro x1 (by intro i e; cases e))
            obtain rfl := ro_int (rv_ro x2 (by intro i e; cases e))
            exact ⟨i, j, rfl, hj, p _ _ n.none_of walks_range⟩
    | exc x l => exact p
    | bad => exact p
end
/-! ### for -/
def loopF (t : MG) (b : MS) : List D → MS
  | [], l => .nx l
  | d :: ds, l => match t d l with
    | some l1 => (match b l1 with
      | .nx l2 => loopF t b ds l2
      | .ct l2 => loopF t b ds l2
      | .bk l2 => .nx l2
      | r => r)
    | none => .bad
def mFor (ms : M (List D)) (t : MG) (b : MS) : MS := fun l => match ms l with
  | .ok ds l1 => loopF t b ds l1
  | .exc x l1 => .exc x l1
  | .bad => .bad
section
variable {X : Cx} {W : WX} {pin : Pin} {iter tg : Expr} {body : List Stmt} {ms : M (List D)} {t : MG} {mb : MS} {pos : Pos} {c : Expr} {mt : M Bool}
theorem sm_for (hp : PassesOwn (model X.prog X.w) X.A X.env X.xe) (hc : X.calm = true) (hi : PI X tg iter (tI X.K W ms)) {js : List Nat} (hg : PG X tg (tG X.K pin js t)) (hb : PSs X body (tS X.K W pin mb))
    (hs : ∀ x, foldedSetIterable iter X.env x = pure x := by intro _; rfl) : PS X (.For tg iter body [] pos) (tS X.K W pin (mFor ms t mb)) := PSi (ps_for hp hc hi hg hb hs) fun σ H D h => by
  obtain ⟨loc, fp, hl, nd, hpn, p⟩ := h
  refine ⟨loc, fp, hl, nd, ?_⟩
  unfold mFor at p
  generalize ms loc = r at p ⊢
  cases r with
  | ok ds l =>
    intro J H1 n1 ⟨G, Y, wk, hG, hY⟩
    obtain ⟨ft, fq, z1, z2, z3, z4⟩ := n1
    cases z1
    have N1 : NowS X.K pin fp H l σ H1 := ⟨fq, z2, z3, z4, hpn⟩
    dsimp only at p
    -- from turn i on: the rest of the items
    refine for_it wk (fun i σ' H' => Kp H1 H' ∧ ∃ l', NowS X.K pin fp H l' σ' H' ∧ PostS X.K W pin fp H D (loopF t mb (ds.drop i) l')) ⟨.refl _, l, N1, p⟩ (fun i σ' H' _ ⟨k, _⟩ => hG H' k) ?_ ?_
    · intro i x σ' H' H'' hi ⟨k, l', N', p'⟩ y
      obtain ⟨rfl, d, e1, e2⟩ := hY i H' x H'' hi k y
      have ed : ds.drop i = d :: ds.drop (i + 1) := by
        rw [List.drop_eq_getElem_cons hi]
        have : ds[i] = d := by
          rw [List.getElem?_eq_getElem hi] at e1
          exact Option.some.inj e1
        rw [this]
      rw [ed] at p'
      unfold loopF at p'
      split at p'
      · rename_i l1 et
        obtain ⟨f2, y1, y2, y3, y4⟩ := N'
        refine ⟨d, l', l1, f2, e2, y1, y2, y4, et, fun σ2 f3 b1 b2 b3 b4 _ _ => ?_⟩
        have N2 : NowS X.K pin fp H l1 σ2 H'' := ⟨f3, b1, b2, y3.less b3, b4⟩
        refine ⟨l1, f3, b1, b2, b4, ?_⟩
        have tr2 : Tr fp H f3 H'' := y3.less b3
        generalize mb l1 = r2 at p' ⊢
        cases r2 with
        | nx l2 => exact fun σ3 H3 n3 => ⟨k.trans (let ⟨_, _, _, t, _⟩ := n3; t.kp), l2, n3.on tr2, p'⟩
        | ct l2 => exact fun σ3 H3 n3 => ⟨k.trans (let ⟨_, _, _, t, _⟩ := n3; t.kp), l2, n3.on tr2, p'⟩
        | bk l2 => exact fun σ3 H3 n3 => p' σ3 H3 (n3.on tr2)
        | rt d l2 => exact fun v σ3 H3 fd f4 a1 a2 a3 a4 a5 => p' v σ3 H3 fd f4 a1 a2 a3 (tr2.trans a4) a5
        | exc x l2 => exact fun cls dd σ3 H3 n3 hx => p' cls dd σ3 H3 (n3.on tr2) hx
        | bad => exact p'
      · exact p'.elim
    · intro σ' H' ⟨k, l', N', p'⟩
      rw [List.drop_length] at p'
      exact p' σ' H' N'
  | exc x l =>
    intro cls dd H' n hx
    obtain ⟨ft, fq, z1, z2, z3, z4⟩ := n
    cases z1
    exact p cls dd σ H' ⟨fq, z2, z3, z4, hpn⟩ hx
  | bad => exact p

/-! ### while -/
def loopW (t : M Bool) (b : MS) : Nat → MS
  | 0, _ => .bad
  | n + 1, l => match t l with
    | .ok true l1 => (match b l1 with
      | .nx l2 => loopW t b n l2
      | .ct l2 => loopW t b n l2
      | .bk l2 => .nx l2
      | r => r)
    | .ok false l1 => .nx l1
    | .exc x l1 => .exc x l1
    | .bad => .bad
open Classical in
noncomputable def mWhile (t : M Bool) (b : MS) : MS := fun l => if h : ∃ n, loopW t b n l ≠ .bad then loopW t b h.choose l else .bad
theorem loopW_mono {t : M Bool} {b : MS} : ∀ {n k : Nat} {l : Loc}, loopW t b n l ≠ .bad → n ≤ k → loopW t b k l = loopW t b n l
  | 0, _, _, h, _ => absurd rfl h
  | n + 1, 0, _, _, hk => by omega
  | n + 1, k + 1, l, h, hk => by
    unfold loopW at h ⊢
    generalize t l = r at h ⊢
    cases r with
    | ok c l1 =>
      cases c with
      | true =>
        dsimp only at h ⊢
        generalize b l1 = r2 at h ⊢
        cases r2 with
        | nx l2 => exact loopW_mono h (by omega)
        | ct l2 => exact loopW_mono h (by omega)
        | _ => rfl
      | false => rfl
    | exc x l1 => rfl
    | bad => rfl
theorem mWhile_eq {t : M Bool} {b : MS} {l : Loc} {r : RS} (n : Nat) (h : loopW t b n l = r) (hr : r ≠ .bad) : mWhile t b l = r := by
  have e : ∃ n, loopW t b n l ≠ .bad := ⟨n, by rw [h]; exact hr⟩
  unfold mWhile
  rw [dif_pos e]
  have h1 := e.choose_spec
  rcases Nat.le_total n e.choose with hle | hle
  · rw [loopW_mono (by rw [h]; exact hr) hle, h]
  · rw [← loopW_mono h1 hle, h]
theorem sm_while (hp : PassesOwn (model X.prog X.w) X.A X.env X.xe) (hc : PT X c (tT X.K W mt)) (hb : PSs X body (tS X.K W pin mb)) : PS X (.While c body [] pos) (tS X.K W pin (mWhile mt mb)) := PSi (ps_while hp hc hb) fun σ H D h => by
  obtain ⟨loc, fp, N, p⟩ := tS_in h
  by_cases e : ∃ n, loopW mt mb n loc ≠ .bad
  · obtain ⟨n0, e0⟩ := e
    rw [mWhile_eq n0 rfl e0] at p
    refine ⟨fun n σ' H' => ∃ l', NowS X.K pin fp H l' σ' H' ∧ PostS X.K W pin fp H D (loopW mt mb n l'), ⟨n0, loc, N, p⟩, ?_⟩
    intro n σ' H' ⟨l', N', p'⟩
    cases n with
    | zero => exact p'.elim
    | succ n =>
      refine seqST N' ?_
      unfold loopW at p'
      generalize mt l' = r at p' ⊢
      cases r with
      | ok k l1 =>
        intro H1 n1
        cases k with
        | true =>
          rw [if_pos rfl]
          refine ⟨fun σ3 H3 => ∃ l3, NowS X.K pin fp H l3 σ3 H3 ∧ PostS X.K W pin fp H D (loopW mt mb n l3), fun σ3 H3 q => ⟨n, Nat.lt_succ_self n, q⟩, ?_⟩
          refine seqS n1 ?_
          dsimp only at p'
          generalize mb l1 = r2 at p' ⊢
          cases r2 with
          | nx l2 => exact fun σ3 H3 n3 => ⟨l2, n3, p'⟩
          | ct l2 => exact fun σ3 H3 n3 => ⟨l2, n3, p'⟩
          | bk l2 => exact fun σ3 H3 n3 => p' σ3 H3 n3
          | rt d l2 => exact p'
          | exc x l2 => exact p'
          | bad => exact p'
        | false =>
          rw [if_neg Bool.false_ne_true]
          exact p' σ' H1 n1
      | exc x l1 => exact fun cls dd H1 n1 hx => p' cls dd σ' H1 n1 hx
      | bad => exact p'
  · exfalso
    unfold mWhile at p
    rw [dif_neg e] at p
    exact p
end
end FM

set_option maxHeartbeats 1000000
/-! FM10: comprehensions, what changes an owned thing, instances, dicts. -/
namespace FM
open PySem PySem.Spec PyProof.Rows L2
/-! ### comprehensions -/
def wipeL (l : Loc) : List Nat → Loc
  | [] => l
  | v :: vs => (wipeL l vs).set v none
def WF : WX := fun _ _ _ _ => False
def loopC (vs : List Nat) (t : MG) (tt : M Bool) (te : M D) : List D → List D → Loc → Option (List D × Loc)
  | [], acc, l => some (acc, l)
  | d :: ds, acc, l => match t d l with
    | some l1 => (match tt l1 with
      | .ok true l2 => (match te l2 with
        | .ok y l3 => if isImm y && decide (acc.length < 16777216) then loopC vs t tt te ds (acc ++ [y]) (wipeL l3 vs) else none
        | _ => none)
      | .ok false l2 => loopC vs t tt te ds acc (wipeL l2 vs)
      | _ => none)
    | none => none
def mLC (vs : List Nat) (ms : M (List D)) (t : MG) (tt : M Bool) (te : M D) : M D := fun l => match ms l with
  | .ok ds l1 => (match loopC vs t tt te ds [] (wipeL l1 vs) with
    | some (acc, l2) => .ok (.own acc) l2
    | none => .bad)
  | .exc x l1 => .exc x l1
  | .bad => .bad
def mYes : M Bool := fun l => .ok true l
theorem wipe_get (σ : L2.St) (j : Nat) : ∀ vs : List Nat, (wipe σ vs)[j]? = if j ∈ vs ∧ j < σ.length then some none else σ[j]?
  | [] => by simp [wipe]
  | v :: vs => by
    unfold wipe
    by_cases hv : v = j
    · subst hv
      by_cases hl : v < σ.length
      · rw [List.getElem?_set_self (by rw [wipe_length]; exact hl), if_pos ⟨List.mem_cons_self, hl⟩]
      · rw [if_neg (fun z => hl z.2), List.getElem?_eq_none (by rw [List.length_set, wipe_length]; omega), List.getElem?_eq_none (by omega)]
    · rw [List.getElem?_set_ne hv, wipe_get σ j vs]
      have : (j ∈ v :: vs ∧ j < σ.length) ↔ (j ∈ vs ∧ j < σ.length) := by
        rw [List.mem_cons]
        constructor
        · rintro ⟨h | h, h2⟩
          · exact absurd h.symm hv
          · exact ⟨h, h2⟩
        · rintro ⟨h, h2⟩
          exact ⟨.inr h, h2⟩
      by_cases hc : j ∈ vs ∧ j < σ.length
      · rw [if_pos hc, if_pos (this.mpr hc)]
      · rw [if_neg hc, if_neg fun z => hc (this.mp z)]
theorem wipe_same {σ σ2 : L2.St} {vs js : List Nat} (hl : σ2.length = (wipe σ vs).length) (h : ∀ j, j ∉ js → σ2[j]? = (wipe σ vs)[j]?) (hj : ∀ j ∈ js, j ∈ vs) : wipe σ2 vs = wipe σ vs := by
  rw [wipe_length] at hl
  apply List.ext_getElem?
  intro j
  rw [wipe_get, wipe_get, hl]
  by_cases hc : j ∈ vs ∧ j < σ.length
  · rw [if_pos hc, if_pos hc]
  · rw [if_neg hc, if_neg hc]
    by_cases hm : j ∈ js
    · have : ¬ j < σ.length := fun z => hc ⟨hj j hm, z⟩
      rw [List.getElem?_eq_none (by omega), List.getElem?_eq_none (by omega)]
    · rw [h j hm, wipe_get, if_neg hc]
section
variable {K : PySem.W.Frag} {H : Hp}
theorem RL.wipe1 {σ : L2.St} {loc fp} (h : RL K H loc σ fp) (v : Nat) : ∃ f2, RL K H (loc.set v none) (σ.set v none) f2 ∧ (∀ a ∈ f2, a ∈ fp) ∧ (fp.Nodup → f2.Nodup) := by
  induction h generalizing v with
  | nil => exact ⟨[], .nil, fun _ h => h, fun h => h⟩
  | gap r ih =>
    cases v with
    | zero => exact ⟨_, .gap r, fun _ h => h, fun h => h⟩
    | succ v =>
      obtain ⟨f2, a, b, c⟩ := ih v
      exact ⟨f2, .gap a, b, c⟩
  | @slot d w loc σ f1 f2 h r ih =>
    cases v with
    | zero => exact ⟨_, .gap r, fun _ h => List.mem_append_right _ h, fun h => (List.nodup_append.mp h).2.1⟩
    | succ v =>
      obtain ⟨f3, a, b, c⟩ := ih v
      refine ⟨f1 ++ f3, .slot h a, fun x hx => ?_, fun hn => ?_⟩
      · rcases List.mem_append.mp hx with z | z
        · exact List.mem_append_left _ z
        · exact List.mem_append_right _ (b x z)
      · obtain ⟨n1, n2, n3⟩ := List.nodup_append.mp hn
        exact List.nodup_append.mpr ⟨n1, c n2, fun x hx y hy e => n3 x hx y (b y hy) e⟩
theorem RL.wipe {σ : L2.St} {loc fp} (h : RL K H loc σ fp) (nd : fp.Nodup) : ∀ vs : List Nat, ∃ f2, RL K H (wipeL loc vs) (L2.wipe σ vs) f2 ∧ (∀ a ∈ f2, a ∈ fp) ∧ f2.Nodup
  | [] => ⟨fp, h, fun _ h => h, nd⟩
  | v :: vs => by
    obtain ⟨f2, a, b, c⟩ := RL.wipe h nd vs
    obtain ⟨f3, a2, b2, c2⟩ := a.wipe1 v
    exact ⟨f3, a2, fun x hx => b x (b2 x hx), c2 c⟩
/-- what does not know the wiped slots holds of the slots as they were -/
theorem RL.unwipe1 {σ : L2.St} {loc fp} (v : Nat) (h : RL K H loc (σ.set v none) fp) (hv : v < σ.length → loc[v]? = some none) : RL K H loc σ fp := by
  induction σ generalizing loc fp v with
  | nil => exact h
  | cons x σ ih =>
    cases v with
    | zero =>
      cases h with
      | gap r => exact .gap r
    | succ v =>
      rw [List.set_cons_succ] at h
      cases h with
      | gap r => exact .gap (ih v r fun z => by simpa using hv (by simpa using z))
      | slot h r => exact .slot h (ih v r fun z => by simpa using hv (by simpa using z))
theorem wipeL_get (l : Loc) (j : Nat) : ∀ vs : List Nat, (wipeL l vs)[j]? = if j ∈ vs ∧ j < l.length then some none else l[j]?
  | [] => by simp [wipeL]
  | v :: vs => by
    have hl : ∀ vs : List Nat, (wipeL l vs).length = l.length := fun vs => by
      induction vs with
      | nil => rfl
      | cons v vs ih =>
        unfold wipeL
        rw [List.length_set, ih]
    unfold wipeL
    by_cases hv : v = j
    · subst hv
      by_cases hl2 : v < l.length
      · rw [List.getElem?_set_self (by rw [hl]; exact hl2), if_pos ⟨List.mem_cons_self, hl2⟩]
      · rw [if_neg (fun z => hl2 z.2), List.getElem?_eq_none (by rw [List.length_set, hl]; omega), List.getElem?_eq_none (by omega)]
    · rw [List.getElem?_set_ne hv, wipeL_get l j vs]
      have : (j ∈ v :: vs ∧ j < l.length) ↔ (j ∈ vs ∧ j < l.length) := by
        rw [List.mem_cons]
        constructor
        · rintro ⟨h | h, h2⟩
          · exact absurd h.symm hv
          · exact ⟨h, h2⟩
        · rintro ⟨h, h2⟩
          exact ⟨.inr h, h2⟩
      by_cases hc : j ∈ vs ∧ j < l.length
      · rw [if_pos hc, if_pos (this.mpr hc)]
      · rw [if_neg hc, if_neg fun z => hc (this.mp z)]
theorem RL.unwipe {σ : L2.St} {loc fp} : ∀ (vs : List Nat), RL K H loc (L2.wipe σ vs) fp → (∀ v ∈ vs, v < σ.length → loc[v]? = some none) → RL K H loc σ fp
  | [], h, _ => h
  | v :: vs, h, hv => RL.unwipe vs (RL.unwipe1 v h fun z => hv v List.mem_cons_self (by rw [wipe_length] at z; exact z)) fun w hw => hv w (List.mem_cons_of_mem _ hw)
end
section
variable {X : Cx} {W : WX} {vs js : List Nat} {wi : TI} {g : TG} {tt : TT} {te : TE} {ms : M (List D)} {t : MG} {mt : M Bool} {me : M D}
def PTm0 : TT → M Bool → PySem.W.Frag → Prop := fun tt m K => ∀ σ H Q, tT K WF m σ H Q → tt σ H Q
/-- within the block: the new list at Dl holds acc -/
def NowC (K : PySem.W.Frag) (f0 : List Addr) (H0 : Hp) (σ : L2.St) (Dl : Addr) (acc : List D) (l : Loc) (H : Hp) : Prop := ∃ ws fp, H Dl = some (.lst ws) ∧ RIs K H acc ws ∧ RL K H l σ fp ∧ fp.Nodup ∧ Dl ∉ fp ∧ Tr f0 H0 (Dl :: fp) H
theorem lc_in (hj : ∀ j ∈ js, j ∈ vs) {σ H Q} (h : tE X.K W (mLC vs ms t mt me) σ H Q) : tLc (tI X.K W ms) (tG X.K (fun _ => none) js t) (tT X.K WF mt) (tE X.K WF me) vs σ H Q := by
  obtain ⟨loc, fp, hl, nd, p⟩ := h
  refine ⟨loc, fp, hl, nd, ?_⟩
  unfold mLC at p
  generalize ms loc = r at p ⊢
  cases r with
  | exc x l => exact p
  | bad => exact p
  | ok ds l =>
    intro J H1 n1 ⟨G, Y, wk, hG, hY⟩ Dl hD
    obtain ⟨ft, fq, z1, z2, z3, z4⟩ := n1
    cases z1
    dsimp only at p
    have z3 : fq.Nodup := z3
    have z4 : Tr fp H fq H1 := z4
    have ex : Ext H1 (upd H1 Dl (.lst [])) := .new hD
    obtain ⟨f2, w1, w2, w3⟩ := RL.wipe (z2.keep ex.kp (ex.kpO z2.there')) z3 vs
    have dn : Dl ∉ fq := fun hm => by
      obtain ⟨o, e⟩ := z2.there' Dl hm
      rw [hD] at e
      cases e
    have N0 : NowC X.K fp H (L2.wipe σ vs) Dl [] (wipeL l vs) (upd H1 Dl (.lst [])) := by
      refine ⟨[], f2, upd_same, .nil, w1, w3, fun hm => dn (w2 _ hm), ?_⟩
      refine (z4.trans (ex.tr (fp := fq) (fd := [Dl]) fun a ha => by rw [List.mem_singleton.mp ha]; exact hD)).less fun x hx => ?_
      rcases List.mem_cons.mp hx with e | hx
      · exact List.mem_append_left _ (by rw [e]; exact List.mem_cons_self)
      · exact List.mem_append_right _ (w2 x hx)
    refine lc_it wk (fun i H' => Kp H1 H' ∧ ∃ acc l', NowC X.K fp H (L2.wipe σ vs) Dl acc l' H' ∧ (∀ v ∈ vs, v < σ.length → l'[v]? = some none) ∧ PostE X.K W σ fp H [] [] Q (match loopC vs t mt me (ds.drop i) acc l' with
      | some (acc, l2) => .ok (.own acc) l2
      | none => .bad)) ⟨ex.kp, [], wipeL l vs, N0, fun v hv hlt => ?_, p⟩ (fun i H' _ ⟨k, _⟩ => hG H' k) ?_ ?_
    · rw [wipeL_get, if_pos ⟨hv, by rw [z2.length]; exact hlt⟩]
    · intro i x H' H'' hi ⟨k, acc, l', N', hw, p'⟩ y
      obtain ⟨rfl, d, e1, e2⟩ := hY i H' x H'' hi k y
      have ed : ds.drop i = d :: ds.drop (i + 1) := by
        rw [List.drop_eq_getElem_cons hi]
        have : ds[i] = d := by
          rw [List.getElem?_eq_getElem hi] at e1
          exact Option.some.inj e1
        rw [this]
      rw [ed] at p'
      unfold loopC at p'
      cases et : t d l' with
      | none =>
        rw [et] at p'
        exact p'.elim
      | some l1 =>
        rw [et] at p'
        dsimp only at p'
        obtain ⟨ws, f3, y1, y2, y3, y4, y5, y6⟩ := N'
        refine ⟨d, l', l1, f3, e2, y3, y4, (fun _ _ e => by cases e), et, fun σ2 f4 b1 b2 b3 _ b5 b6 => ?_⟩
        have ws2 : L2.wipe σ2 vs = L2.wipe σ vs := wipe_same b5 b6 hj
        refine ⟨ws2, ?_⟩
        have dn4 : Dl ∉ f4 := fun hm => y5 (b3 _ hm)
        have tr4 : Tr fp H (Dl :: f4) H'' := y6.less fun x hx => by
          rcases List.mem_cons.mp hx with e | hx
          · rw [e]; exact List.mem_cons_self
          · exact List.mem_cons_of_mem _ (b3 x hx)
        -- a step within the turn: the new list stays as it is
        have on : ∀ {l2 : Loc} {H3 : Hp} {ds2 : List D} {tv2 : List V}, Now X.K σ2 f4 H'' ds2 tv2 l2 H3 → ∃ fd f5, RVs X.K H3 σ2 ds2 tv2 fd ∧ RL X.K H3 l2 σ2 f5 ∧ (fd ++ f5).Nodup ∧ H3 Dl = some (.lst ws) ∧ RIs X.K H3 acc ws ∧ Dl ∉ f5 ∧ Tr fp H (Dl :: f5) H3 := fun {l2 H3 ds2 tv2} n => by
          obtain ⟨fd, f5, q1, q2, q3, q4⟩ := n
          have s5 : ∀ a ∈ [Dl], a ∉ fd ++ f5 := q4.still (g := [Dl]) (fun a ha => by rw [List.mem_singleton.mp ha]; exact ⟨_, y1⟩) (fun a ha => by rw [List.mem_singleton.mp ha]; exact dn4)
          refine ⟨fd, f5, q1, q2, q3, q4.fr Dl _ y1 dn4, y2.keep q4.kp, fun hm => s5 Dl List.mem_cons_self (List.mem_append_right _ hm), ⟨fun a o h hn => ?_, tr4.kp.trans q4.kp, fun a ha => ?_⟩⟩
          · refine q4.fr a o (tr4.fr a o h hn) fun hm => ?_
            rcases tr4.new a (List.mem_cons_of_mem _ hm) with z | z
            · exact hn z
            · rw [h] at z
              cases z
          · rcases List.mem_cons.mp ha with e | ha
            · rw [e]
              exact tr4.new Dl List.mem_cons_self
            · exact ((tr4.less (f2 := f4) fun x hx => List.mem_cons_of_mem _ hx).trans q4).new a (List.mem_append_right _ ha)
        refine ⟨l1, f4, b1, b2, ?_⟩
        generalize mt l1 = r2 at p' ⊢
        cases r2 with
        | exc x l2 => exact p'.elim
        | bad => exact p'.elim
        | ok b l2 =>
          intro H3 n3
          cases b with
          | false =>
            rw [if_neg Bool.false_ne_true]
            obtain ⟨fd, f5, q1, q2, q3, q4, q5, q6, q7⟩ := on n3
            cases q1
            obtain ⟨f6, u1, u2, u3⟩ := RL.wipe q2 q3 vs
            rw [ws2] at u1
            refine ⟨k.trans (let ⟨_, _, _, _, _, t⟩ := n3; t.kp), acc, wipeL l2 vs, ⟨ws, f6, q4, q5, u1, u3, fun hm => q6 (u2 _ hm), q7.less fun x hx => ?_⟩, fun v hv hlt => ?_, p'⟩
            · rcases List.mem_cons.mp hx with e | hx
              · rw [e]; exact List.mem_cons_self
              · exact List.mem_cons_of_mem _ (u2 x hx)
            · rw [wipeL_get, if_pos ⟨hv, by rw [q2.length, b5, wipe_length]; exact hlt⟩]
          | true =>
            rw [if_pos rfl]
            dsimp only at p'
            refine seqE n3 ?_
            generalize me l2 = r3 at p' ⊢
            cases r3 with
            | exc x l3 => exact p'.elim
            | bad => exact p'.elim
            | ok y l3 =>
              intro v H4 n4
              dsimp only at p'
              by_cases hc : (isImm y && decide (acc.length < 16777216)) = true
              · rw [if_pos hc] at p'
                obtain ⟨c1, c2⟩ := Bool.and_eq_true_iff.mp hc
                have c2 := of_decide_eq_true c2
                obtain ⟨fd, f5, q1, q2, q3, q4, q5, q6, q7⟩ := on n4
                have hr := imm_ri q1.one_of c1
                have nd5 := (List.nodup_append.mp q3).2.1
                refine ⟨ws, q4, by rw [← q5.length, sizeLine_eq]; exact c2, ?_⟩
                have kp5 : Kp H4 (upd H4 Dl (.lst (ws ++ [v]))) := ⟨fun a zs h => by rw [upd_ne (ne_of h q4 (by intro z; cases z))]; exact h, fun a o u h => by rw [upd_ne (ne_of h q4 (by intro z; cases z))]; exact h⟩
                have q2' := q2.keep kp5 (fun b hb => by rw [upd_ne]; rintro rfl; exact q6 hb)
                obtain ⟨f6, u1, u2, u3⟩ := RL.wipe q2' nd5 vs
                rw [ws2] at u1
                refine ⟨(k.trans (let ⟨_, _, _, _, _, t⟩ := n4; t.kp)).trans kp5, acc ++ [y], wipeL l3 vs, ⟨ws ++ [v], f6, upd_same, (q5.append (.cons hr .nil)).keep kp5, u1, u3, fun hm => q6 (u2 _ hm), ?_⟩, fun v hv hlt => ?_, p'⟩
                · refine q7.trans ⟨fun a o h hn => ?_, kp5, fun a ha => ?_⟩
                  · rw [upd_ne]
                    · exact h
                    · rintro rfl
                      exact hn List.mem_cons_self
                  · rcases List.mem_cons.mp ha with e | ha
                    · rw [e]; exact .inl List.mem_cons_self
                    · exact .inl (List.mem_cons_of_mem _ (u2 a ha))
                · rw [wipeL_get, if_pos ⟨hv, by rw [q2.length, b5, wipe_length]; exact hlt⟩]
              · rw [if_neg hc] at p'
                exact p'.elim
    · intro H' ⟨k, acc, l', N', hw, p'⟩
      rw [List.drop_length] at p'
      obtain ⟨ws, f3, y1, y2, y3, y4, y5, y6⟩ := N'
      have y3' := RL.unwipe vs y3 hw
      refine p' _ _ ⟨[Dl], f3, .one (.inl (.own y1 y2)), y3', List.nodup_append.mpr ⟨by simp, y4, fun a ha b hb e => y5 (by rw [← List.mem_singleton.mp ha, e]; exact hb)⟩, y6⟩
theorem tms_nil : PTs X [] (tT X.K WF mYes) := ⟨fun pins s σ H Q I h => pts_nil.run pins s σ H Q I (by
  obtain ⟨loc, fp, N, p⟩ := tT_in h
  exact p H N)⟩
theorem tms_one {c : Expr} (h : PT X c (tT X.K WF mt)) : PTs X [c] (tT X.K WF mt) := pts_one h
theorem em_lc {elt tg iter : Expr} {ifs : List Expr} {scope : Scope} {own : List (Str × Nat)} {pos : Pos} (hc : X.calm = true) (hN : X.N.Nodup) (hi : PI X tg iter (tI X.K W ms)) (ok : BlkOk X.N X.env.scope scope own)
    (hg : ∀ (s : Shared) (H : Hp) (C : Addr) (cl : List (Str × Addr)) (fp : List Addr), PG (X.blk s H scope (compEnvC scope cl C X.env) fp) tg (tG X.K (fun _ => none) js t)) (ht : ∀ (s : Shared) (H : Hp) (C : Addr) (cl : List (Str × Addr)) (fp : List Addr), PTs (X.blk s H scope (compEnvC scope cl C X.env) fp) ifs (tT X.K WF mt))
    (he : ∀ (s : Shared) (H : Hp) (C : Addr) (cl : List (Str × Addr)) (fp : List Addr), PE (X.blk s H scope (compEnvC scope cl C X.env) fp) elt (tE X.K WF me)) (hj : ∀ j ∈ js, j ∈ own.map (·.2)) (hs : ∀ x, foldedSetIterable iter X.env x = pure x := by intro _; rfl) :
    PE X (.ListComp elt [⟨tg, iter, ifs, 0⟩] scope pos) (tE X.K W (mLC (own.map (·.2)) ms t mt me)) := PEi (pe_lc hc hN hi ok hg ht he hs) fun _ _ _ h => lc_in hj h
theorem sm_setLc {pin : Pin} {i : Nat} {y : Str} {py : Pos} {elt tg iter : Expr} {ifs : List Expr} {scope : Scope} {own : List (Str × Nat)} {pos spos : Pos} (hc : X.calm = true) (hN : X.N.Nodup) (hy : X.N[i]? = some y) (hyl : X.env.scope.names.lookup y = some .local)
    (hsw : swapsWith (.ListComp elt [⟨tg, iter, ifs, 0⟩] scope pos) (some (.Name y py)) spos.line X.env = pure true) (hp : pin i = none) (hi : PI X tg iter (tI X.K W ms)) (ok : BlkOk X.N X.env.scope scope own)
    (hg : ∀ (s : Shared) (H : Hp) (C : Addr) (cl : List (Str × Addr)) (fp : List Addr), PG (X.blk s H scope (compEnvC scope cl C X.env) fp) tg (tG X.K (fun _ => none) js t)) (ht : ∀ (s : Shared) (H : Hp) (C : Addr) (cl : List (Str × Addr)) (fp : List Addr), PTs (X.blk s H scope (compEnvC scope cl C X.env) fp) ifs (tT X.K WF mt))
    (he : ∀ (s : Shared) (H : Hp) (C : Addr) (cl : List (Str × Addr)) (fp : List Addr), PE (X.blk s H scope (compEnvC scope cl C X.env) fp) elt (tE X.K WF me)) (hj : ∀ j ∈ js, j ∈ own.map (·.2)) (hs : ∀ x, foldedSetIterable iter X.env x = pure x := by intro _; rfl) :
    PS X (.Assign [.Name y py] (.ListComp elt [⟨tg, iter, ifs, 0⟩] scope pos) spos) (tS X.K W pin (mSet i (mLC (own.map (·.2)) ms t mt me))) := PSi (ps_setLc hc hN hy hyl hsw hi ok hg ht he hs) fun σ H D h => by
  have h2 := set_in hp h
  exact lc_in (Q := fun x H1 => gName i x σ H1 D.nx) hj h2
end
end FM

set_option maxHeartbeats 1000000
/-! FM11: what changes an owned thing, instances, dicts, a def's body. -/
namespace FM
open PySem PySem.Spec PyProof.Rows L2
/-! ### a name's list changed by a method -/
def lstAt (l : Loc) (i : Nat) : Option (List D) := match l[i]? with
  | some (some (.own xs)) => some xs
  | _ => none
/-- name.method(args): g of the list and the arguments gives the new list and the result -/
def mMut (i : Nat) (g : List D → List D → Option (List D × D)) (ms : M (List D)) : M D := fun l => match lstAt l i with
  | some _ => (match ms l with
    | .ok ds l1 => (match lstAt l1 i with
      | some xs => if ds.all isImm then (match g xs ds with
        | some (ys, d) => .ok d (l1.set i (some (.own ys)))
        | none => .bad) else .bad
      | none => .bad)
    | .exc x l1 => .exc x l1
    | .bad => .bad)
  | none => .bad
def MutM (K : PySem.W.Frag) (r : V → List V → Hp → VK → Prop) (g : List D → List D → Option (List D × D)) : Prop :=
  ∀ (H : Hp) (a : Addr) (vs ws : List V) (xs ds ys : List D) (d : D) (Q : VK), H a = some (.lst vs) → RIs K H xs vs → RIs K H ds ws → g xs ds = some (ys, d) → (∀ vs' v, RIs K H ys vs' → RI K H d v → Q v (upd H a (.lst vs'))) → r (.ref a) ws H Q
theorem lstAt_of {l : Loc} {i : Nat} {xs : List D} (h : lstAt l i = some xs) : l[i]? = some (some (.own xs)) := by
  unfold lstAt at h
  split at h
  · rename_i ys e
    cases h
    exact e
  · cases h
theorem lstAt_rl {K : PySem.W.Frag} {H : Hp} {l : Loc} {σ fp} {i : Nat} {xs : List D} (hl : RL K H l σ fp) (h : lstAt l i = some xs) : ∃ a vs f2, σ[i]? = some (some (.ref a)) ∧ H a = some (.lst vs) ∧ RIs K H xs vs ∧ RL K H (l.set i none) σ f2 ∧ fp.Perm ([a] ++ f2) := by
  obtain ⟨w, f1, f2, y1, y2, y3, y4⟩ := hl.take (lstAt_of h)
  obtain ⟨a, vs, rfl, rfl, hh, rr⟩ := own_of y2
  exact ⟨a, vs, f2, y1, hh, rr, y3, y4⟩
theorem kp_lst {H : Hp} {a : Addr} {vs vs' : List V} (h : H a = some (.lst vs)) : Kp H (upd H a (.lst vs')) :=
  ⟨fun b zs e => by rw [upd_ne (ne_of e h (by intro z; cases z))]; exact e, fun b o u e => by rw [upd_ne (ne_of e h (by intro z; cases z))]; exact e⟩
/-- a slot's list is another one now -/
theorem lst_upd {K : PySem.W.Frag} {σ : L2.St} {f0 : List Addr} {H0 H : Hp} {l : Loc} {fp f2 : List Addr} {i : Nat} {xs ys : List D} {a : Addr} {vs vs' : List V} (e : l[i]? = some (some (.own xs))) (es : σ[i]? = some (some (.ref a))) (hh : H a = some (.lst vs)) (y3 : RL K H (l.set i none) σ f2) (y4 : fp.Perm ([a] ++ f2))
    (nd : fp.Nodup) (tr : Tr f0 H0 fp H) (hr : RIs K H ys vs') : ∃ fq, RL K (upd H a (.lst vs')) (l.set i (some (.own ys))) σ fq ∧ fq.Nodup ∧ Tr f0 H0 fq (upd H a (.lst vs')) := by
  have nd' := y4.nodup_iff.mp nd
  obtain ⟨_, m2, m3⟩ := List.nodup_append.mp nd'
  have na : a ∉ f2 := fun hm => m3 a List.mem_cons_self a hm rfl
  have kp := kp_lst (vs' := vs') hh
  have hl' := y3.keep kp (fun b hb => by rw [upd_ne]; rintro rfl; exact na hb)
  obtain ⟨fq, u1, u2⟩ := RL.turn e es hl' (RO.own upd_same (hr.keep kp))
  refine ⟨fq, u1, u2.nodup_iff.mpr nd', ?_⟩
  refine tr.trans ⟨fun b o h hn => ?_, kp, fun b hb => .inl (y4.mem_iff.mpr (u2.mem_iff.mp hb))⟩
  rw [upd_ne]
  · exact h
  · rintro rfl
    exact hn (y4.mem_iff.mpr List.mem_cons_self)
section
variable {X : Cx} {W : WX} {pin : Pin} {o e : Expr} {es : List Expr} {ms : M (List D)} {name : Str} {apos cpos pos p px : Pos} {id : String} {r : V → List V → Hp → VK → Prop} {g : List D → List D → Option (List D × D)} {i : Nat} {x : Str} {me mi : M D}
theorem mut_end {K : PySem.W.Frag} {σ f0 H0 ds vs l H Q} (hg : MutM K r g) (N : Now K σ f0 H0 ds vs l H) (p : PostE K W σ f0 H0 [] [] Q (match lstAt l i with
      | some xs => if ds.all isImm then (match g xs ds with
        | some (ys, d) => .ok d (l.set i (some (.own ys)))
        | none => .bad) else .bad
      | none => .bad)) {a : Addr} (es : σ[i]? = some (some (.ref a))) : r (.ref a) vs H Q := by
  obtain ⟨ft, fp, hv, hl, nd, tr⟩ := N
  cases h1 : lstAt l i with
  | none =>
    rw [h1] at p
    exact p.elim
  | some xs =>
    rw [h1] at p
    dsimp only at p
    by_cases hi : ds.all isImm = true
    · rw [if_pos hi] at p
      cases h2 : g xs ds with
      | none =>
        rw [h2] at p
        exact p.elim
      | some q =>
        obtain ⟨ys, d⟩ := q
        rw [h2] at p
        obtain ⟨b, ws, f2, y1, y2, y3, y4, y5⟩ := lstAt_rl hl h1
        rw [es] at y1
        cases y1
        have hr := imms_ri hv hi
        refine hg H a ws vs xs ds ys d Q y2 y3 hr h2 fun vs' v k1 k2 => ?_
        have n2 := (List.nodup_append.mp nd).2.1
        obtain ⟨fq, u1, u2, u3⟩ := lst_upd (lstAt_of h1) es y2 y4 y5 n2 (tr.less fun x hx => List.mem_append_right _ hx) k1
        exact p _ _ ⟨[], fq, .one (.inl (.imm (k2.keep (kp_lst y2)))), u1, u2, u3⟩
    · rw [if_neg hi] at p
      exact p.elim
theorem em_mut (hr : MtR X id r) (hg : MutM X.K r g) (slot : Slot "list" name id) (hty : typeOf (.builtin id) = pure (.type "method_descriptor")) (ho : PE X (.Name x px) (tVar i)) (ha : PA X (e :: es) (tA X.K W ms))
    (hbase : attributeBase (.Name x px) name X.env (eval (.Name x px) X.env) = eval (.Name x px) X.env := by rfl)
    (hfew : ((backTo cpos (starEach (e :: es) X.env)).all (fun x => !x.1) && (backToKw cpos (keywordEach [] X.env)).all (fun x => x.1.isSome)
      && decide ((e :: es).length + ([] : List Keyword).length + (if ([] : List Keyword).isEmpty then 0 else 1) < 30)) = true := by rfl)
    (hline : (apos.endLine == cpos.line) = true := by rfl) (hs : starEach (e :: es) X.env = (false, eval e X.env) :: starEach es X.env := by rfl) (hplain : (backTo cpos (starEach es X.env)).any (·.1) = false := by rfl) :
    PE X (.Call (.Attribute (.Name x px) name apos) (e :: es) [] cpos) (tE X.K W (mMut i g ms)) := PEi (pe_bm PySem.F.plainAttrs_list slot hty hr ho ha hbase hfew hline hs hplain) fun σ H Q h => by
  obtain ⟨loc, fp, hl, nd, p⟩ := h
  unfold mMut at p
  cases h1 : lstAt loc i with
  | none =>
    rw [h1] at p
    exact p.elim
  | some xs =>
    rw [h1] at p
    dsimp only at p
    obtain ⟨a, ws, f2, y1, y2, y3, y4, y5⟩ := lstAt_rl hl h1
    refine ⟨.ref a, y1, .inl ⟨rfl, ws, SqL.of y2⟩, ?_⟩
    refine seqA (now0 hl nd) ?_
    generalize ms loc = r2 at p ⊢
    cases r2 with
    | ok ds l => exact fun vs H1 n1 => mut_end hg n1 p y1
    | exc x l => exact p
    | bad => exact p
theorem em_mut0 (hr : MtR X id r) (hg : MutM X.K r g) (slot : Slot "list" name id) (hty : typeOf (.builtin id) = pure (.type "method_descriptor")) (ho : PE X (.Name x px) (tVar i))
    (hbase : attributeBase (.Name x px) name X.env (eval (.Name x px) X.env) = eval (.Name x px) X.env := by rfl) (hline : (apos.endLine == cpos.line) = true := by rfl) :
    PE X (.Call (.Attribute (.Name x px) name apos) [] [] cpos) (tE X.K W (mMut i g mNil)) := PEi (pe_bm0 PySem.F.plainAttrs_list slot hty hr ho hbase hline) fun σ H Q h => by
  obtain ⟨loc, fp, hl, nd, p⟩ := h
  unfold mMut mNil at p
  cases h1 : lstAt loc i with
  | none =>
    rw [h1] at p
    exact p.elim
  | some xs =>
    rw [h1] at p
    dsimp only at p
    obtain ⟨a, ws, f2, y1, y2, y3, y4, y5⟩ := lstAt_rl hl h1
    refine ⟨.ref a, y1, .inl ⟨rfl, ws, SqL.of y2⟩, ?_⟩
    exact mut_end hg (now0 hl nd) p y1
def gApp : List D → List D → Option (List D × D)
  | xs, [d] => if xs.length < 16777216 then some (xs ++ [d], .non) else none
  | _, _ => none
theorem mapp {K : PySem.W.Frag} : MutM K rAppend gApp := by
  intro H a vs ws xs ds ys d Q h1 h2 h3 hg q
  unfold gApp at hg
  split at hg
  · split at hg
    · rename_i hl
      cases hg
      cases h3 with
      | cons h4 h5 =>
        cases h5
        exact ⟨a, vs, _, rfl, rfl, h1, by rw [← h2.length, sizeLine_eq]; exact hl, q _ _ (h2.append (.cons h4 .nil)) .non⟩
    · cases hg
  · cases hg
def gPop : List D → List D → Option (List D × D)
  | xs, [] => match xs[xs.length - 1]? with
    | some d => some (xs.dropLast, d)
    | none => none
  | _, _ => none
theorem ris_dropLast {K : PySem.W.Frag} {H : Hp} {ds vs} (r : RIs K H ds vs) : RIs K H ds.dropLast vs.dropLast := by
  rw [List.dropLast_eq_take, List.dropLast_eq_take, r.length]
  exact r.take _
theorem mpop {K : PySem.W.Frag} : MutM K rPop gPop := by
  intro H a vs ws xs ds ys d Q h1 h2 h3 hg q
  unfold gPop at hg
  split at hg
  · cases h3
    split at hg
    · rename_i d0 hd
      cases hg
      obtain ⟨v, e1, e2⟩ := h2.get hd
      exact ⟨a, vs, v, rfl, rfl, h1, by rw [← h2.length]; exact e1, q _ _ (ris_dropLast h2) e2⟩
    · cases hg
  · cases hg
def gRev : List D → List D → Option (List D × D)
  | xs, [] => some (xs.reverse, .non)
  | _, _ => none
theorem mrev {K : PySem.W.Frag} : MutM K rReverse gRev := by
  intro H a vs ws xs ds ys d Q h1 h2 h3 hg q
  unfold gRev at hg
  split at hg
  · cases h3
    cases hg
    exact ⟨a, vs, rfl, rfl, h1, q _ _ h2.reverse .non⟩
  · cases hg
/-- name[k] = e -/
def mSetIx (i : Nat) (mi me : M D) : MS := fun l => match me l with
  | .ok d l1 => if isImm d then (match lstAt l1 i with
    | some _ => (match mi l1 with
      | .ok (.int k) l2 => (match lstAt l2 i with
        | some xs => (match ixN xs.length k with
          | some j => .nx (l2.set i (some (.own (xs.set j d))))
          | none => .bad)
        | none => .bad)
      | .exc x l2 => .exc x l2
      | _ => .bad)
    | none => .bad) else .bad
  | .exc x l1 => .exc x l1
  | .bad => .bad
theorem sm_setIx {oi : Expr} {pt : Pos} (ho : PE X (.Name x px) (tVar i)) (hi : PE X oi (tE X.K W mi)) (he : PE X e (tE X.K W me)) (hs : swapsWithSole [.Subscript (.Name x px) oi pt] e pos.line X.env = pure false := by rfl) (hw : swappedStores [.Subscript (.Name x px) oi pt] e X.env = pure none := by rfl)
    (h1 : (assignEach [.Subscript (.Name x px) oi pt] X.env).map (·.2) = [assign (.Subscript (.Name x px) oi pt) X.env] := by rfl)
    (ha : ∀ v, assign (.Subscript (.Name x px) oi pt) X.env v = (do
      let ov ← holding [v] (eval (.Name x px) X.env)
      let iv ← holding [v, ov] (eval oi X.env)
      standAt pt
      holding [v, ov, iv] (setItem ov iv v)
      release [v, ov, iv] []) := by intro _; rfl) : PS X (.Assign [.Subscript (.Name x px) oi pt] e pos) (tS X.K W pin (mSetIx i mi me)) :=
  PSi (ps_asg he (pg_sub ho hi set_list ha) hs hw h1) fun σ H D h => by
    obtain ⟨loc, fp, hl, nd, hpn, p⟩ := h
    refine ⟨loc, fp, hl, nd, ?_⟩
    unfold mSetIx at p
    generalize me loc = r at p ⊢
    cases r with
    | exc x l =>
      intro cls dd H' n hx
      obtain ⟨ft, fq, z1, z2, z3, z4⟩ := n
      cases z1
      exact p cls dd σ H' ⟨fq, z2, z3, z4, hpn⟩ hx
    | bad => exact p
    | ok d l =>
      intro v H1 n1
      dsimp only at p
      by_cases hi : isImm d = true
      · rw [if_pos hi] at p
        cases h1 : lstAt l i with
        | none =>
          rw [h1] at p
          exact p.elim
        | some xs0 =>
          rw [h1] at p
          dsimp only at p
          have n1' := n1
          obtain ⟨ft, fq, z1, z2, z3, z4⟩ := n1'
          obtain ⟨a, ws0, f20, y1, _⟩ := lstAt_rl z2 h1
          refine ⟨_, y1, ?_⟩
          refine seqE n1 ?_
          generalize mi l = r2 at p ⊢
          cases r2 with
          | exc x l2 =>
            intro cls dd H' n hx
            obtain ⟨ft, fq, z1, z2, z3, z4⟩ := n
            cases z1
            exact p cls dd σ H' ⟨fq, z2, z3, z4, hpn⟩ hx
          | bad => exact p
          | ok d2 l2 =>
            intro v2 H2 n2
            cases d2 with
            | int k =>
              dsimp only at p
              obtain ⟨ft2, fq2, q1, q2, q3, q4⟩ := n2
              cases q1 with
              | cons x1 rr =>
                cases rr with
                | cons x2 rr =>
                  cases rr
                  obtain rfl := ro_int (rv_ro x2 (by intro i e; cases e))
                  have hr := imm_ri x1 hi
                  cases h2 : lstAt l2 i with
                  | none =>
                    rw [h2] at p
                    exact p.elim
                  | some xs =>
                    rw [h2] at p
                    dsimp only at p
                    cases h3 : ixN xs.length k with
                    | none =>
                      rw [h3] at p
                      exact p.elim
                    | some j =>
                      rw [h3] at p
                      obtain ⟨b, ws, f2, w1, w2, w3, w4, w5⟩ := lstAt_rl q2 h2
                      rw [y1] at w1
                      cases w1
                      have n2 := (List.nodup_append.mp q3).2.1
                      obtain ⟨fz, u1, u2, u3⟩ := lst_upd (lstAt_of h2) y1 w2 w4 w5 n2 (q4.less fun x hx => List.mem_append_right _ hx) (w3.set hr j)
                      exact ⟨_, ws, k, j, rfl, rfl, w2, by rw [← w3.length]; exact h3, p σ _ ⟨fz, u1, u2, u3, hpn⟩⟩
            | _ => exact p.elim
      · rw [if_neg hi] at p
        exact p.elim
/-- no lent thing -/
def isSto : D → Bool
  | .brw _ => false
  | _ => true
/-- name op= e, by values -/
def mAug (i : Nat) (g : List D → Option D) (me : M D) : MS := fun l => match l[i]? with
  | some (some d0) => if isImm d0 then (match me l with
    | .ok d l1 => (match (viewL l1 [d0, d]).bind g with
      | some z => if isSto z then .nx (l1.set i (some z)) else .bad
      | none => .bad)
    | .exc x l1 => .exc x l1
    | .bad => .bad) else .bad
  | _ => .bad
theorem sm_aug {op : Operator} {r2 : R2} {g2 : List D → Option D} (hN : X.N.Nodup) (hi : X.N[i]? = some x) (hx : L2.Loc X.env.scope x) (hp : pin i = none) (ho : OpR X (inplaceOp op) r2) (hg : OpM X.K (r2l r2) g2) (he : PE X e (tE X.K W me)) (hf : X.fn x = true ∨ X.env.scope.names.lookup x = some .local := by first | exact .inl rfl | exact .inr rfl | assumption) :
    PS X (.AugAssign (.Name x px) op e pos) (tS X.K W pin (mAug i g2 me)) := PSi (ps_aug hN hi hx he ho hf) fun σ H D h => by
  obtain ⟨loc, fp, hl, nd, hpn, p⟩ := h
  unfold mAug at p
  split at p
  · rename_i d0 e0
    by_cases hi0 : isImm d0 = true
    · rw [if_pos hi0] at p
      obtain ⟨v0, f1, f2, y1, y2, y3, y4⟩ := hl.take e0
      refine ⟨v0, y1, ?_⟩
      have N0 : Now X.K σ fp H [d0] [v0] loc H := (now0 hl nd).fresh (.imm (imm_ri (.inl y2 : RV X.K H σ d0 v0 f1) hi0))
      refine seqE N0 ?_
      generalize me loc = r at p ⊢
      cases r with
      | exc x l =>
        intro cls dd H' n hx
        obtain ⟨ft, fq, z1, z2, z3, z4⟩ := n
        cases z1
        exact p cls dd σ H' ⟨fq, z2, z3, z4, hpn⟩ hx
      | bad => exact p
      | ok d l =>
        intro v H1 n1
        dsimp only at p
        cases hz : (viewL l [d0, d]).bind g2 with
        | none =>
          rw [hz] at p
          exact p.elim
        | some z =>
          rw [hz] at p
          obtain ⟨ds', e1, e2⟩ := Option.bind_eq_some_iff.mp hz
          have n2 : Now X.K σ fp H [d0, d] [v0, v] l H1 := n1
          dsimp only at p
          by_cases hs : isSto z = true
          · rw [if_pos hs] at p
            have := n2.op (Q := fun z H' => D.nx (σ.set i (some z)) H') hg e1 e2 (fun zv H' n => ?_)
            · obtain ⟨x', y', e, q⟩ := this
              cases e
              exact q
            · obtain ⟨ft, fq, z1, z2, z3, z4⟩ := n
              have nb : ∀ j, z ≠ FM.D.brw j := fun j e => by
                subst e
                cases hs
              exact p _ _ (put_slot (rv_ro z1.one_of nb) z2 z3 z4 hpn hp)
          · rw [if_neg hs] at p
            exact p.elim
    · rw [if_neg hi0] at p
      exact p.elim
  · exact p.elim
end
end FM

set_option maxHeartbeats 1000000
/-! FM12: chains, instances, dicts, a def's body. -/
namespace FM
open PySem PySem.Spec PyProof.Rows L2
theorem Now.also {K : PySem.W.Frag} {σ f0 H0 ds vs loc H H'} {d : D} {v : V} {fd} (N : Now K σ f0 H0 ds vs loc H) (n : New K H H' d v fd) : Now K σ f0 H0 ds vs loc H' := by
  obtain ⟨ft, fp, hv, hl, nd, tr⟩ := N
  obtain ⟨ho, ex, hn, n2⟩ := n
  refine ⟨ft, fp, hv.keep ex.kp (ex.kpO hv.there), hl.keep ex.kp (ex.kpO hl.there'), nd, ?_⟩
  exact tr.trans ⟨fun a o h _ => ex a o h, ex.kp, fun a ha => .inl ha⟩
/-! ### a < b < c -/
def mChain (g g' : List D → Option D) (ma mb mc : M D) : M D := fun l => match ma l with
  | .ok a l1 => (match mb l1 with
    | .ok b l2 => if isImm b then (match (viewL l2 [a, b]).bind g with
      | some (.bl true) => mOp g' (mCons (mC b) (mCons mc mNil)) l2
      | some (.bl false) => .ok (.bl false) l2
      | _ => .bad) else .bad
    | r => r)
  | r => r
section
variable {X : Cx} {W : WX} {a b c e : Expr} {es : List Expr} {ma mb mc me : M D} {ms : M (List D)} {pos : Pos} {r r' : R2} {g g' : List D → Option D}
theorem chain_in (hg : OpM X.K (r2l r) g) (hg' : OpM X.K (r2l r') g') {σ H Q} (h : tE X.K W (mChain g g' ma mb mc) σ H Q) : tChain r r' (tE X.K W ma) (tE X.K W mb) (tE X.K W mc) σ H Q := by
  obtain ⟨loc, fp, N, p⟩ := tE_in h
  refine seqE N ?_
  unfold mChain at p
  generalize ma loc = ra at p ⊢
  cases ra with
  | exc x l => exact p
  | bad => exact p
  | ok d l =>
    intro x H1 n1
    refine seqE n1 ?_
    dsimp only at p
    generalize mb l = rb at p ⊢
    cases rb with
    | exc x l => exact p
    | bad => exact p
    | ok d2 l2 =>
      intro y H2 n2
      dsimp only at p
      by_cases hi : isImm d2 = true
      · rw [if_pos hi] at p
        cases hz : (viewL l2 [d, d2]).bind g with
        | none =>
          rw [hz] at p
          exact p.elim
        | some z =>
          rw [hz] at p
          obtain ⟨ds', e1, e2⟩ := Option.bind_eq_some_iff.mp hz
          have n3 : Now X.K σ fp H [d, d2] [x, y] l2 H2 := n2
          obtain ⟨ft, fq, z1, z2, z3, z4⟩ := id n3
          have N2 : ∀ H', (∃ d0 v0 fd, New X.K H2 H' d0 v0 fd) → Now X.K σ fp H [d2] [y] l2 H' := fun H' ⟨d0, v0, fd, n⟩ => by
            have n4 := n3.also n
            obtain ⟨ft, fq, z1, z2, z3, z4⟩ := n4
            cases z1 with
            | cons x1 rr =>
              rename_i f1 f2
              obtain ⟨m1, m2, m3⟩ := List.nodup_append.mp z3
              exact ⟨f2, fq, rr, z2, List.nodup_append.mpr ⟨(List.nodup_append.mp m1).2.1, m2, fun a ha b hb e => m3 a (List.mem_append_right _ ha) b hb e⟩, z4.less fun x hx => by
                rcases List.mem_append.mp hx with w | w
                · exact List.mem_append_left _ (List.mem_append_right _ w)
                · exact List.mem_append_right _ w⟩
          cases z with
          | bl k =>
            have := hg H2 ds' [x, y] (.bl k) (fun z H3 => ∃ k, z = .bl k ∧ (if k = true then tE X.K W mc σ H3 fun w' H4 => r' y w' H4 Q else Q (.bl false) H3)) (z1.rrs z2 e1) e2 (fun v H3 fd n => ?_)
            · obtain ⟨x', y', e, q⟩ := this
              cases e
              exact q
            · have ev : v = .bl k := by
                obtain ⟨ho, _⟩ := n
                cases ho with | imm h => cases h; rfl
              subst ev
              refine ⟨k, rfl, ?_⟩
              cases k with
              | false =>
                rw [if_neg Bool.false_ne_true]
                exact p _ _ (n3.fresh n)
              | true =>
                rw [if_pos rfl]
                refine seqE (N2 H3 ⟨_, _, _, n⟩) ?_
                unfold mOp mCons mC mNil at p
                dsimp only at p
                generalize mc l2 = rc at p ⊢
                cases rc with
                | exc x l => exact p
                | bad => exact p
                | ok d3 l3 =>
                  intro w H4 n4
                  dsimp only at p
                  cases hz2 : (viewL l3 [d2, d3]).bind g' with
                  | none =>
                    rw [hz2] at p
                    exact p.elim
                  | some z2 =>
                    rw [hz2] at p
                    obtain ⟨ds2, e3, e4⟩ := Option.bind_eq_some_iff.mp hz2
                    have n5 : Now X.K σ fp H [d2, d3] [y, w] l3 H4 := n4
                    obtain ⟨x', y', e, q⟩ := n5.op hg' e3 e4 (fun v H' n => p v H' n)
                    cases e
                    exact q
          | _ => exact p.elim
      · rw [if_neg hi] at p
        exact p.elim
theorem em_chain {op op' : CmpOp} (ho : OpR X (compareOp op) r) (ho' : OpR X (compareOp op') r') (hg : OpM X.K (r2l r) g) (hg' : OpM X.K (r2l r') g') (ha : PE X a (tE X.K W ma)) (hb : PE X b (tE X.K W mb)) (hc : PE X c (tE X.K W mc))
    (hm : lastMarks [op, op'] [b, c] = false := by with_unfolding_all rfl) : PE X (.Compare a [op, op'] [b, c] pos) (tE X.K W (mChain g g' ma mb mc)) := PEi (pe_chain ho ho' ha hb hc hm) fun _ _ _ h => chain_in hg hg' h
theorem tm_chain {op op' : CmpOp} (ho : OpR X (compareOp op) r) (ho' : OpR X (compareOp op') r') (hg : OpM X.K (r2l r) g) (hg' : OpM X.K (r2l r') g') (ha : PE X a (tE X.K W ma)) (hb : PE X b (tE X.K W mb)) (hc : PE X c (tE X.K W mc))
    (hm : lastMarks [op, op'] [b, c] = false := by with_unfolding_all rfl) : PT X (.Compare a [op, op'] [b, c] pos) (tT X.K W (mTest (mChain g g' ma mb mc))) := PTi (pt_chain ho ho' ha hb hc hm) fun _ _ _ h => test_in (fun _ _ _ z => chain_in hg hg' z) h
end

/-! ### instances: their fields -/
def objAt (l : Loc) (i : Nat) (C : Addr) : Option (List (Str × D)) := match l[i]? with
  | some (some (.obj C' fs)) => if C' = C then some fs else none
  | _ => none
theorem objAt_of {l : Loc} {i : Nat} {C : Addr} {fs} (h : objAt l i C = some fs) : l[i]? = some (some (.obj C fs)) := by
  unfold objAt at h
  split at h
  · rename_i C' gs e
    split at h
    · rename_i hc
      cases h
      subst hc
      exact e
    · cases h
  · cases h
def putFD (f : Str) (d : D) : List (Str × D) → List (Str × D)
  | [] => [(f, d)]
  | (g, x) :: r => if g = f then (g, d) :: r else (g, x) :: putFD f d r
section
variable {K : PySem.W.Frag} {H : Hp}
theorem ROf.look : ∀ {fs fvs fp} {f : Str} {d : D}, ROf K H fs fvs fp → fs.lookup f = some d → isImm d = true → ∃ v, fvs.lookup f = some v ∧ RI K H d v
  | _, _, _, f, d, .nil, e, _ => by cases e
  | _, _, _, f, d, .cons (n := k) h r, e, hi => by
    by_cases hk : f = k
    · subst hk
      simp only [List.lookup, beq_self_eq_true] at e ⊢
      cases e
      exact ⟨_, rfl, imm_ri (σ := []) (.inl h) hi⟩
    · have hb : (f == k) = false := beq_eq_false_iff_ne.mpr hk
      simp only [List.lookup, hb] at e ⊢
      exact ROf.look r e hi
theorem ROf.put {d : D} {v : V} {f1 : List Addr} (h : RO K H d v f1) : ∀ {fs fvs fp} (f : Str), ROf K H fs fvs fp → ∃ fp', ROf K H (putFD f d fs) (putF f v fvs) fp' ∧ (∀ a ∈ fp', a ∈ f1 ++ fp) ∧ ((f1 ++ fp).Nodup → fp'.Nodup)
  | _, _, _, f, .nil => ⟨f1 ++ [], .cons h .nil, fun _ h => h, fun h => h⟩
  | _, _, _, f, .cons (n := k) (fp1 := g1) (fp2 := g2) h0 r => by
    by_cases hk : k = f
    · subst hk
      refine ⟨f1 ++ g2, ?_, fun a ha => ?_, fun hn => ?_⟩
      · unfold putFD putF
        rw [if_pos rfl, if_pos rfl]
        exact .cons h r
      · rcases List.mem_append.mp ha with z | z
        · exact List.mem_append_left _ z
        · exact List.mem_append_right _ (List.mem_append_right _ z)
      · obtain ⟨n1, n2, n3⟩ := List.nodup_append.mp hn
        exact List.nodup_append.mpr ⟨n1, (List.nodup_append.mp n2).2.1, fun a ha b hb => n3 a ha b (List.mem_append_right _ hb)⟩
    · obtain ⟨fp', a, b, c⟩ := ROf.put h f r
      refine ⟨g1 ++ fp', ?_, fun x hx => ?_, fun hn => ?_⟩
      · unfold putFD putF
        rw [if_neg hk, if_neg hk]
        exact .cons h0 a
      · rcases List.mem_append.mp hx with z | z
        · exact List.mem_append_right _ (List.mem_append_left _ z)
        · rcases List.mem_append.mp (b x z) with w | w
          · exact List.mem_append_left _ w
          · exact List.mem_append_right _ (List.mem_append_right _ w)
      · obtain ⟨n1, n2, n3⟩ := List.nodup_append.mp hn
        obtain ⟨m1, m2, m3⟩ := List.nodup_append.mp n2
        refine List.nodup_append.mpr ⟨m1, c (List.nodup_append.mpr ⟨n1, m2, fun a ha b hb => n3 a ha b (List.mem_append_right _ hb)⟩), fun x hx y hy e => ?_⟩
        rcases List.mem_append.mp (b y hy) with w | w
        · exact n3 y w x (List.mem_append_left _ hx) e.symm
        · exact m3 x hx y w e
theorem ROf.length : ∀ {fs fvs fp}, ROf K H fs fvs fp → fs.length = fvs.length
  | _, _, _, .nil => rfl
  | _, _, _, .cons _ r => congrArg (· + 1) r.length
theorem objAt_rl {l : Loc} {σ fp} {i : Nat} {C : Addr} {fs} (hl : RL K H l σ fp) (h : objAt l i C = some fs) : ∃ a dx fvs f1 f2, σ[i]? = some (some (.ref a)) ∧ H a = some (.ins C dx fvs) ∧ ROf K H fs fvs f1 ∧ RL K H (l.set i none) σ f2 ∧ fp.Perm ((a :: f1) ++ f2) := by
  obtain ⟨w, f1, f2, y1, y2, y3, y4⟩ := hl.take (objAt_of h)
  obtain ⟨a, dx, fvs, f3, rfl, rfl, hh, rr⟩ := obj_of y2
  exact ⟨a, dx, fvs, f3, f2, y1, hh, rr, y3, y4⟩
theorem kp_ins {a C dx : Addr} {fvs fvs'} (h : H a = some (.ins C dx fvs)) : Kp H (upd H a (.ins C dx fvs')) :=
  ⟨fun b zs e => by rw [upd_ne (ne_of e h (by intro z; cases z))]; exact e, fun b o u e => by rw [upd_ne (ne_of e h (by intro z; cases z))]; exact e⟩
/-- a slot's instance has another field now -/
theorem obj_upd {σ : L2.St} {f0 : List Addr} {H0 : Hp} {l : Loc} {ft fp f1 f2 : List Addr} {i : Nat} {fs} {a C dx : Addr} {fvs} {f : Str} {d : D} {v : V} (e : l[i]? = some (some (.obj C fs))) (es : σ[i]? = some (some (.ref a))) (hh : H a = some (.ins C dx fvs)) (rr : ROf K H fs fvs f1) (y3 : RL K H (l.set i none) σ f2) (y4 : fp.Perm ((a :: f1) ++ f2))
    (hv : RO K H d v ft) (nd : (ft ++ fp).Nodup) (tr : Tr f0 H0 (ft ++ fp) H) : ∃ fq, RL K (upd H a (.ins C dx (putF f v fvs))) (l.set i (some (.obj C (putFD f d fs)))) σ fq ∧ fq.Nodup ∧ Tr f0 H0 fq (upd H a (.ins C dx (putF f v fvs))) := by
  obtain ⟨n1, n2, n3⟩ := List.nodup_append.mp nd
  have nd' := y4.nodup_iff.mp n2
  obtain ⟨m1, m2, m3⟩ := List.nodup_append.mp nd'
  obtain ⟨k1, k2⟩ := List.nodup_cons.mp m1
  have na2 : a ∉ f2 := fun hm => m3 a List.mem_cons_self a hm rfl
  have nat : a ∉ ft := fun hm => n3 a hm a (y4.mem_iff.mpr (List.mem_append_left _ List.mem_cons_self)) rfl
  have kp := kp_ins (fvs' := putF f v fvs) hh
  have ko : ∀ {g : List Addr}, a ∉ g → KpO g H (upd H a (.ins C dx (putF f v fvs))) := fun {g} hg b hb => by rw [upd_ne]; rintro rfl; exact hg hb
  have hl' := y3.keep kp (ko na2)
  obtain ⟨f3, u1, u2, u3⟩ := ROf.put (hv.keep kp (ko nat)) f (ROf.keep kp rr (ko k1))
  have d1 : (ft ++ f1).Nodup := List.nodup_append.mpr ⟨n1, k2, fun x hx y hy e => n3 x hx y (y4.mem_iff.mpr (List.mem_append_left _ (List.mem_cons_of_mem _ hy))) e⟩
  obtain ⟨fq, w1, w2⟩ := RL.turn e es hl' (RO.obj upd_same u1)
  have sub : ∀ x ∈ (a :: f3) ++ f2, x ∈ ft ++ fp := fun x hx => by
    rcases List.mem_append.mp hx with z | z
    · rcases List.mem_cons.mp z with z | z
      · rw [z]
        exact List.mem_append_right _ (y4.mem_iff.mpr (List.mem_append_left _ List.mem_cons_self))
      · rcases List.mem_append.mp (u2 x z) with w | w
        · exact List.mem_append_left _ w
        · exact List.mem_append_right _ (y4.mem_iff.mpr (List.mem_append_left _ (List.mem_cons_of_mem _ w)))
    · exact List.mem_append_right _ (y4.mem_iff.mpr (List.mem_append_right _ z))
  refine ⟨fq, w1, w2.nodup_iff.mpr (List.nodup_append.mpr ⟨List.nodup_cons.mpr ⟨fun hm => ?_, u3 d1⟩, m2, fun x hx y hy e => ?_⟩), ?_⟩
  · rcases List.mem_append.mp (u2 a hm) with w | w
    · exact nat w
    · exact k1 w
  · rcases List.mem_cons.mp hx with z | z
    · subst z
      subst e
      exact na2 hy
    · rcases List.mem_append.mp (u2 x z) with w | w
      · exact n3 x w y (y4.mem_iff.mpr (List.mem_append_right _ hy)) e
      · exact m3 x (List.mem_cons_of_mem _ w) y hy e
  · refine tr.trans ⟨fun b o h hn => ?_, kp, fun b hb => .inl (sub b (w2.mem_iff.mp hb))⟩
    rw [upd_ne]
    · exact h
    · rintro rfl
      exact hn (List.mem_append_right _ (y4.mem_iff.mpr (List.mem_append_left _ List.mem_cons_self)))
end
section
variable {X : Cx} {W : WX} {pin : Pin} {e : Expr} {me : M D} {i : Nat} {x f : Str} {C : Addr} {pos pos' px tpos : Pos}
/-- name.f -/
def mFld (i : Nat) (C : Addr) (f : Str) : M D := fun l => match objAt l i C with
  | some fs => (match fs.lookup f with
    | some d => if isImm d then .ok d l else .bad
    | none => .bad)
  | none => .bad
theorem em_fld (ho : PE X (.Name x px) (tVar i)) (c : Cls X.K C) (n : NoAttr X.K C f) (hb : attributeBase (.Name x px) f X.env (eval (.Name x px) X.env) = eval (.Name x px) X.env := by rfl) : PE X (.Attribute (.Name x px) f pos) (tE X.K W (mFld i C f)) := PEi (pe_fld ho hb) fun σ H Q h => by
  obtain ⟨loc, fp, hl, nd, p⟩ := h
  unfold mFld at p
  cases h1 : objAt loc i C with
  | none =>
    rw [h1] at p
    exact p.elim
  | some fs =>
    rw [h1] at p
    dsimp only at p
    cases h2 : fs.lookup f with
    | none =>
      rw [h2] at p
      exact p.elim
    | some d =>
      rw [h2] at p
      dsimp only at p
      by_cases hi : isImm d = true
      · rw [if_pos hi] at p
        obtain ⟨a, dx, fvs, f1, f2, y1, y2, y3, y4, y5⟩ := objAt_rl hl h1
        obtain ⟨v, e1, e2⟩ := y3.look h2 hi
        exact ⟨.ref a, y1, a, C, dx, fvs, v, rfl, y2, c, n, e1, p _ _ ((now0 hl nd).fresh (.imm e2))⟩
      · rw [if_neg hi] at p
        exact p.elim
/-- name.f = e -/
def mSetF (i : Nat) (C : Addr) (f : Str) (me : M D) : MS := fun l => match me l with
  | .ok d l1 => if isSto d then (match objAt l1 i C with
    | some fs => if fs.length < 1000 then .nx (l1.set i (some (.obj C (putFD f d fs)))) else .bad
    | none => .bad) else .bad
  | .exc x l1 => .exc x l1
  | .bad => .bad
theorem sm_fld (ho : PE X (.Name x px) (tVar i)) (he : PE X e (tE X.K W me)) (c : Cls X.K C) (n : NoAttr X.K C f) (hs : swapsWith e (some (.Attribute (.Name x px) f pos')) pos.line X.env = pure false := by rfl) : PS X (.Assign [.Attribute (.Name x px) f pos'] e pos) (tS X.K W pin (mSetF i C f me)) := PSi (ps_fld ho he hs) fun σ H D h => by
  obtain ⟨loc, fp, N, p⟩ := tS_in h
  refine seqSE N ?_
  unfold mSetF at p
  generalize me loc = r at p ⊢
  cases r with
  | exc x l => exact fun cls dd H' n hx => p cls dd σ H' n hx
  | bad => exact p
  | ok d l =>
    intro v H' fd fq a b cc t hpn
    dsimp only at p
    by_cases hi : isSto d = true
    · rw [if_pos hi] at p
      cases h1 : objAt l i C with
      | none =>
        rw [h1] at p
        exact p.elim
      | some fs =>
        rw [h1] at p
        dsimp only at p
        by_cases hl : fs.length < 1000
        · rw [if_pos hl] at p
          obtain ⟨ad, dx, fvs, f1, f2, y1, y2, y3, y4, y5⟩ := objAt_rl b h1
          have nb : ∀ j, d ≠ FM.D.brw j := fun j e => by
            subst e
            cases hi
          obtain ⟨fz, u1, u2, u3⟩ := obj_upd (f := f) (objAt_of h1) y1 y2 y3 y4 y5 (rv_ro a nb) cc t
          exact ⟨.ref ad, y1, ad, C, dx, fvs, rfl, y2, c, n, by rw [← y3.length]; exact hl, p σ _ ⟨fz, u1, u2, u3, hpn⟩⟩
        · rw [if_neg hl] at p
          exact p.elim
    · rw [if_neg hi] at p
      exact p.elim
/-- name.f += an int -/
def mAugF (i : Nat) (C : Addr) (f : Str) (g : Int → Int → Int) (me : M D) : MS := fun l => match objAt l i C with
  | some fs => (match fs.lookup f with
    | some (.int a) => (match me l with
      | .ok (.int b) l1 => (match objAt l1 i C with
        | some fs1 => if fs1.length < 1000 then .nx (l1.set i (some (.obj C (putFD f (.int (g a b)) fs1)))) else .bad
        | none => .bad)
      | .exc x l1 => .exc x l1
      | _ => .bad)
    | _ => .bad)
  | none => .bad
theorem sm_augF {op : Operator} {g : Int → Int → Int} {rd : V → V → Hp → VK → Prop} (ho : PE X (.Name x px) (tVar i)) (he : PE X e (tE X.K W me)) (c : Cls X.K C) (n : NoAttr X.K C f) (hop : InOp X op rd) (hrd : ∀ a b H Q, Q (.int (g a b)) H → rd (.int a) (.int b) H Q) :
    PS X (.AugAssign (.Attribute (.Name x px) f tpos) op e pos) (tS X.K W pin (mAugF i C f g me)) := PSi (ps_fldaug ho he hop) fun σ H D h => by
  obtain ⟨loc, fp, hl, nd, hpn, p⟩ := h
  unfold mAugF at p
  cases h1 : objAt loc i C with
  | none =>
    rw [h1] at p
    exact p.elim
  | some fs =>
    rw [h1] at p
    dsimp only at p
    cases h2 : fs.lookup f with
    | none =>
      rw [h2] at p
      exact p.elim
    | some d =>
      rw [h2] at p
      cases d with
      | int a0 =>
        dsimp only at p
        obtain ⟨ad, dx, fvs, f1, f2, y1, y2, y3, y4, y5⟩ := objAt_rl hl h1
        obtain ⟨v, e1, e2⟩ := y3.look h2 rfl
        cases e2
        refine ⟨.ref ad, y1, ad, C, dx, fvs, _, rfl, y2, c, n, e1, ?_⟩
        refine seqSE (nowS0 hl nd hpn) ?_
        generalize me loc = r at p ⊢
        cases r with
        | exc x l => exact fun cls dd H' n hx => p cls dd σ H' n hx
        | bad => exact p
        | ok d l =>
          intro v H' fd fq aa b cc t hpn
          cases d with
          | int b0 =>
            dsimp only at p
            obtain rfl := ro_int (rv_ro aa (by intro i e; cases e))
            cases h3 : objAt l i C with
            | none =>
              rw [h3] at p
              exact p.elim
            | some fs1 =>
              rw [h3] at p
              dsimp only at p
              by_cases hl1 : fs1.length < 1000
              · rw [if_pos hl1] at p
                obtain ⟨ad2, dx2, fvs2, g1, g2, z1, z2, z3, z4, z5⟩ := objAt_rl b h3
                rw [y1] at z1
                cases z1
                have n2 := (List.nodup_append.mp cc).2.1
                obtain ⟨fz, u1, u2, u3⟩ := obj_upd (f := f) (objAt_of h3) y1 z2 z3 z4 z5 (RO.imm (.int (g a0 b0))) (ft := []) n2 (t.less fun x hx => List.mem_append_right _ hx)
                exact hrd _ _ _ _ ⟨dx2, fvs2, z2, by rw [← z3.length]; exact hl1, p σ _ ⟨fz, u1, u2, u3, hpn⟩⟩
              · rw [if_neg hl1] at p
                exact p.elim
          | _ => exact p.elim
      | _ => exact p.elim
end
/-! ### C(..) -/
section
variable {X : Cx} {CX : CXT} {k : Nat} {f C : Addr} {fd : FuncData} {ps : List Str} {sp : Sp} {E : L2.St → XK} {x : Str} {p pos : Pos} {e : Expr} {es : List Expr} {t : TA}
def tMakeSD (C : Addr) (sp : Sp) (E : L2.St → XK) (t : TA) : TE := fun σ H Q => t σ H fun vs H1 => ∀ x dx, H1 x = none → H1 dx = none → dx ≠ x →
  sp (.ref x :: vs) (upd (upd H1 dx (.own x)) x (.ins C dx [])) (fun v H2 => v = .non ∧ Q (.ref x) H2) (E σ)
theorem run_makeSD {pins : List (Addr × Obj)} {σ : L2.St} {H : Hp} {s : Shared} {Q : VK} {us : List Value} {vs : List V} (M : Mk X.K C f) (F : FnOk X.prog X.w X.K X.mg X.base CX k f fd ps sp) (hr : Room (k + 1) X.A) (hb : Binds X.K fd ps [])
    (hx : PassesAt CX X σ (E σ)) (I : Inv X pins σ H s) (r : Vals vs us)
    (h : ∀ x dx, H x = none → H dx = none → dx ≠ x → sp (.ref x :: vs) (upd (upd H dx (.own x)) x (.ins C dx [])) (fun v H2 => v = .non ∧ Q (.ref x) H2) (E σ)) :
    wpAny (model X.prog X.w) X.A (call (.ref C) us) (EP X pins σ Q) X.xe s := by
  have hq := h (s.heap.objs.size + 1) s.heap.objs.size (I.hok.fresh (Nat.le_succ _)) (I.hok.fresh (Nat.le_refl _)) (Nat.ne_of_lt (Nat.lt_succ_self _))
  have I2 := Inv.made (C := C) I
  have r2 : Vals (V.ref (s.heap.objs.size + 1) :: vs) (Value.ref (s.heap.objs.size + 1) :: us) := .cons rfl r
  have hl : (Value.ref (s.heap.objs.size + 1) :: us).length = ps.length := by
    have e := r2.length
    rw [F.len _ _ _ _ hq] at e
    exact e.symm
  have b := hb { s with heap := (s.heap.push PySem.W.emptyDict).push (PySem.W.instObj C s.heap.objs.size) } (Value.ref (s.heap.objs.size + 1) :: us) I2.kIn (by rw [List.append_nil]; exact hl)
  rw [List.append_nil] at b
  refine wpAny_call (make_map (f := f) I.kIn M.makes M.init (beq_iff_eq.mp M.fn) (codeAny_mono (F.run _ X.stack _ _ ⟨Value.ref (s.heap.objs.size + 1) :: us, []⟩ (Value.ref (s.heap.objs.size + 1) :: us) _ _ (E σ) (hr.make C us [])
    (I2.env0.make C us []) b r2 hq) fun r s' hq' => ?_))
  cases r with
  | error e => exact hx pins _ _ e s' I2 hq'
  | ok fl =>
    cases fl with
    | ret u =>
      obtain ⟨v, H', I3, rv, ev, q3⟩ := I2.after hq'
      subst ev
      exact ⟨rv, ⟨V.ref (s.heap.objs.size + 1), H', I3, rfl, q3⟩⟩
    | next => exact False.elim hq'
    | brk => exact False.elim hq'
    | cont => exact False.elim hq'
theorem pe_makeSD (M : Mk X.K C f) (F : FnOk X.prog X.w X.K X.mg X.base CX k f fd ps sp) (hr : Room (k + 1) X.A) (hg : Gl X x) (hm : X.mg x = some (.ref C)) (hb : Binds X.K fd ps []) (hx : ∀ σ, PassesAt CX X σ (E σ))
    (ha : PA X (e :: es) t) (hdb : (x == ("__debug__" : Str)) = false := by decide) (he : starEach (e :: es) X.env = (false, eval e X.env) :: starEach es X.env := by rfl) (hpl : (backTo pos (starEach es X.env)).any (·.1) = false := by rfl) :
    PE X (.Call (.Name x p) (e :: es) [] pos) (tMakeSD C sp E t) := by
  refine ⟨fun pins s σ H Q I h => ?_⟩
  refine wpAny_Call_Name_kw (ld_glob I hg hm ?_ hdb)
  refine PySem.W.callWith_K (h₀ := X.base) I.ok.mod.kin M.kp (thn (ha.run pos pins s σ H _ I h) fun us s1 ⟨vs, H1, I1, r, q⟩ => ⟨I1.kIn, ?_⟩) he hpl
  exact run_makeSD M F hr hb (hx σ) I1 r q
end
def noBrw : List D → Bool
  | [] => true
  | .brw _ :: _ => false
  | _ :: r => noBrw r
def mMake (C : Addr) (m : List D → RF) (ms : M (List D)) : M D := fun l => match ms l with
  | .ok ds l1 => if noBrw ds then (match m (.obj C [] :: ds) with
    | .ok .non [o] => if isSto o then .ok o l1 else .bad
    | .exc x _ => .exc x l1
    | _ => .bad) else .bad
  | .exc x l1 => .exc x l1
  | .bad => .bad
theorem rvs_rol {K : PySem.W.Frag} {H : Hp} {σ} : ∀ {ds vs f}, RVs K H σ ds vs f → noBrw ds = true → ROl K H ds vs f
  | _, _, _, .nil, _ => .nil
  | _, _, _, .cons (d := d) (ds := ds0) h r, hn => by
    have h1 : ∀ i, d ≠ .brw i := fun i e => by
      subst e
      cases hn
    have h2 : noBrw ds0 = true := by
      cases d <;> first | exact hn | exact absurd rfl (h1 _)
    exact .cons (rv_ro h h1) (rvs_rol r h2)
theorem ROl.keep {K : PySem.W.Frag} {H H' : Hp} (k : Kp H H') : ∀ {ds vs f}, ROl K H ds vs f → KpO f H H' → ROl K H' ds vs f
  | _, _, _, .nil, _ => .nil
  | _, _, _, .cons h r, o => .cons (h.keep k fun a ha => o a (List.mem_append_left _ ha)) (r.keep k fun a ha => o a (List.mem_append_right _ ha))
theorem ROl.length {K : PySem.W.Frag} {H : Hp} : ∀ {ds vs f}, ROl K H ds vs f → ds.length = vs.length
  | _, _, _, .nil => rfl
  | _, _, _, .cons _ r => congrArg (· + 1) r.length
theorem pick_false {α : Type} : ∀ (n : Nat) (l : List α), pick (List.replicate n false) l = []
  | 0, _ => rfl
  | n + 1, [] => rfl
  | n + 1, _ :: l => pick_false n l
section
variable {X : Cx} {W : WX} {k : Nat} {f C : Addr} {fd : FuncData} {ps : List Str} {x : Str} {p pos : Pos} {e : Expr} {es : List Expr} {mf : List D → RF} {ms : M (List D)} {n : Nat}
theorem em_make (M : Mk X.K C f) (F : FnOk X.prog X.w X.K X.mg X.base (L2.CX X.prog X.w) k f fd ps (spM X.K (true :: List.replicate n false) mf)) (tk : Takes X W) (hr : Room (k + 1) X.A) (hg : Gl X x) (hm : X.mg x = some (.ref C)) (hb : Binds X.K fd ps [])
    (hlen : (e :: es).length = n) (hml : ∀ l ds l1, ms l = .ok ds l1 → ds.length = n) (ha : PA X (e :: es) (tA X.K W ms)) (hdb : (x == ("__debug__" : Str)) = false := by decide) (he : starEach (e :: es) X.env = (false, eval e X.env) :: starEach es X.env := by rfl) (hpl : (backTo pos (starEach es X.env)).any (·.1) = false := by rfl) :
    PE X (.Call (.Name x p) (e :: es) [] pos) (tE X.K W (mMake C mf ms)) := PEi (pe_makeSD M F hr hg hm hb (fun σ => passAt tk σ) ha hdb he hpl) fun σ H Q h => by
  obtain ⟨loc, fp, N, p⟩ := tE_in h
  refine seqA N ?_
  have hml := hml loc
  unfold mMake at p
  generalize ms loc = r at p hml ⊢
  cases r with
  | exc x l => exact p
  | bad => exact p
  | ok ds l =>
    intro vs H1 n1 y dx hy hdx hne
    have hn := hml ds l rfl
    dsimp only at p
    by_cases hb : noBrw ds = true
    · rw [if_pos hb] at p
      obtain ⟨ft, fq, z1, z2, z3, z4⟩ := n1
      obtain ⟨nd1, nd2, nd3⟩ := List.nodup_append.mp z3
      have ex : Ext H1 (upd (upd H1 dx (.own y)) y (.ins C dx [])) := (Ext.new hdx).trans (Ext.new (by rw [upd_ne hne.symm]; exact hy))
      have yt : y ∉ ft ++ fq := fun hm => by
        rcases List.mem_append.mp hm with z | z
        · obtain ⟨o, e⟩ := z1.there y z
          rw [hy] at e
          cases e
        · obtain ⟨o, e⟩ := z2.there' y z
          rw [hy] at e
          cases e
      have r1 : ROl X.K (upd (upd H1 dx (.own y)) y (.ins C dx [])) (.obj C [] :: ds) (.ref y :: vs) ([y] ++ ft) := .cons (.obj upd_same .nil) ((rvs_rol z1 hb).keep ex.kp (ex.kpO z1.there))
      have lv : vs.length = n := (show ds.length = vs.length from z1.length).symm.trans hn
      refine ⟨by rw [List.length_cons, List.length_cons, List.length_replicate, lv], _, _, r1, List.nodup_cons.mpr ⟨fun hm => yt (List.mem_append_left _ hm), nd1⟩, ?_⟩
      have z2' := z2.keep ex.kp (ex.kpO z2.there')
      have tr0 : Tr fp H ([y] ++ ft ++ fq) (upd (upd H1 dx (.own y)) y (.ins C dx [])) := by
        refine z4.trans ⟨fun a o h _ => ex a o h, ex.kp, fun a ha => ?_⟩
        rw [List.append_assoc] at ha
        rcases List.mem_append.mp ha with z | z
        · rw [List.mem_singleton.mp z]
          exact .inr hy
        · exact .inl z
      have apf : ∀ a ∈ fq, a ∉ [y] ++ ft := fun a ha hm => by
        rcases List.mem_append.mp hm with z | z
        · rw [List.mem_singleton.mp z] at ha
          exact yt (List.mem_append_right _ ha)
        · exact nd3 a z a ha rfl
      have back : ∀ {H' : Hp} {fd : List Addr}, Tr ([y] ++ ft) (upd (upd H1 dx (.own y)) y (.ins C dx [])) fd H' → fd.Nodup → RL X.K H' l σ fq ∧ (fd ++ fq).Nodup ∧ Tr fp H (fd ++ fq) H' := fun {H' fd} t n2 => by
        have hl2 := z2'.keep t.kp (t.apart z2'.there' apf)
        have st := t.still z2'.there' apf
        refine ⟨hl2, List.nodup_append.mpr ⟨n2, nd2, fun a ha b hb e => st b hb (e ▸ ha)⟩, ⟨fun a o h hn => ?_, tr0.kp.trans t.kp, fun a ha => ?_⟩⟩
        · refine t.fr a o (tr0.fr a o h hn) fun hm => ?_
          rcases tr0.new a (List.mem_append_left _ hm) with z | z
          · exact hn z
          · rw [h] at z
            cases z
        · rcases List.mem_append.mp ha with ha | ha
          · exact ((tr0.less (f2 := [y] ++ ft) fun x hx => List.mem_append_left _ hx).trans t).new a ha
          · exact tr0.new a (List.mem_append_right _ ha)
      have pk : pick (true :: List.replicate n false) (V.ref y :: vs) = [V.ref y] := by
        show V.ref y :: pick (List.replicate n false) vs = _
        rw [pick_false]
      cases hm : mf (.obj C [] :: ds) with
      | bad =>
        rw [hm] at p
        exact p.elim
      | exc w io =>
        rw [hm] at p
        intro cls dd H' fi hx hi n2 t
        obtain ⟨b1, b2, b3⟩ := back (fd := []) (t.less fun _ h => by cases h) .nil
        exact p cls dd H' ⟨[], fq, .nil, b1, b2, b3⟩ hx
      | ok d io =>
        rw [hm] at p
        cases d <;> first | exact p.elim | skip
        cases io with
        | nil => exact p.elim
        | cons o io =>
          cases io with
          | cons _ _ => exact p.elim
          | nil =>
            dsimp only at p
            by_cases ho : isSto o = true
            · rw [if_pos ho] at p
              intro v H' fd0 fi hv hi n2 t
              have ev : v = .non := by cases hv with | imm z => cases z; rfl
              have ed : fd0 = [] := by cases hv with | imm z => rfl
              subst ev ed
              refine ⟨rfl, ?_⟩
              rw [pk] at hi
              cases hi with
              | cons h1 h2 =>
                cases h2
                obtain ⟨b1, b2, b3⟩ := back t n2
                refine p _ _ ⟨_, fq, .one (.inl h1), b1, ?_, ?_⟩
                · simpa using b2
                · simpa using b3
            · rw [if_neg ho] at p
              exact p.elim
    · rw [if_neg hb] at p
      exact p.elim
end
end FM

set_option maxHeartbeats 1000000
/-! FM13: defs; dicts with text or int keys. -/
namespace FM
open PySem PySem.Spec PyProof.Rows L2
/-! ### a def -/
def startD (n : Nat) (ds : List D) : Loc := ds.map some ++ List.replicate (n - ds.length) none
def pinOf (fl : List Bool) (vs : List V) : Pin := fun i => if fl[i]? = some true then vs[i]? else none
theorem pin_no {fl : List Bool} {vs : List V} {i : Nat} (h : (fl[i]? == some true) = false) : pinOf fl vs i = none := by
  unfold pinOf
  rw [if_neg]
  intro e
  rw [e] at h
  cases h
def ioOf : List Bool → Loc → Option (List D)
  | true :: fl, some d :: l => (match ioOf fl l with
    | some io => some (d :: io)
    | none => none)
  | false :: fl, _ :: l => ioOf fl l
  | [], _ => some []
  | _, _ => none
def mDef (n : Nat) (fl : List Bool) (mb : MS) (ds : List D) : RF := match mb (startD n ds) with
  | .nx l => (match ioOf fl l with
    | some io => .ok .non io
    | none => .bad)
  | .rt d l => (match ioOf fl l with
    | some io => .ok d io
    | none => .bad)
  | .exc x l => (match ioOf fl l with
    | some io => .exc x io
    | none => .bad)
  | _ => .bad
theorem io_ok {K : PySem.W.Frag} {H : Hp} : ∀ {fl : List Bool} {l : Loc} {σ : L2.St} {vs : List V} {fp : List Addr} {io : List D}, RL K H l σ fp → ioOf fl l = some io → vs.length = fl.length → (∀ i v, pinOf fl vs i = some v → σ[i]? = some (some v)) →
    ∃ fi fr, ROl K H io (pick fl vs) fi ∧ fp.Perm (fi ++ fr)
  | [], l, σ, vs, fp, io, hl, h, _, _ => by
    have : io = [] := by cases l <;> exact (Option.some.inj h).symm
    subst this
    exact ⟨[], fp, .nil, .refl _⟩
  | true :: fl, some d :: l, _, v :: vs, _, io, .slot (v := w) hd hl, h, hn, hp => by
    have e := hp 0 v rfl
    have e : w = v := Option.some.inj (Option.some.inj e)
    subst e
    unfold ioOf at h
    split at h
    · rename_i io' e
      cases h
      obtain ⟨fi, fr, a, b⟩ := io_ok hl e (Nat.succ.inj hn) (fun i v hv => hp (i + 1) v hv)
      refine ⟨_ ++ fi, fr, .cons hd a, ?_⟩
      rw [List.append_assoc]
      exact List.Perm.append_left _ b
    · cases h
  | false :: fl, some d :: l, _, v :: vs, _, io, .slot (fp1 := f1) (fp2 := f2) hd hl, h, hn, hp => by
    obtain ⟨fi, fr, a, b⟩ := io_ok (io := io) hl (by exact h) (Nat.succ.inj hn) (fun i v hv => hp (i + 1) v hv)
    refine ⟨fi, f1 ++ fr, a, ?_⟩
    refine (List.Perm.append_left f1 b).trans ?_
    rw [← List.append_assoc, ← List.append_assoc]
    exact List.Perm.append_right fr List.perm_append_comm
  | false :: fl, none :: l, _, v :: vs, fp, io, .gap hl, h, hn, hp => io_ok (fl := fl) (vs := vs) (io := io) hl (by exact h) (Nat.succ.inj hn) (fun i v hv => hp (i + 1) v hv)
  | true :: fl, none :: l, _, _, _, _, _, h, _, _ => by cases h
  | true :: fl, [], _, _, _, _, _, h, _, _ => by cases h
  | false :: fl, [], _, _, _, _, _, h, _, _ => by cases h
  | true :: fl, some d :: l, _, [], _, _, _, h, hn, _ => by cases hn
  | false :: fl, some d :: l, _, [], _, _, _, h, hn, _ => by cases hn
  | false :: fl, none :: l, _, [], _, _, _, h, hn, _ => by cases hn
theorem rl_start {K : PySem.W.Frag} {H : Hp} : ∀ {ds : List D} {vs : List V} {fp : List Addr} (n : Nat), ROl K H ds vs fp → RL K H (ds.map some ++ List.replicate n none) (vs.map some ++ List.replicate n none) fp
  | _, _, _, n, .nil => by
    simp only [List.map_nil, List.nil_append]
    induction n with
    | zero => exact .nil
    | succ n ih =>
      rw [List.replicate_succ, List.replicate_succ]
      exact .gap ih
  | _, _, _, n, .cons h r => .slot h (rl_start n r)
/-- what is kept of a def that keeps m -/
structure OkF (P : Program) (w : World) (K : PySem.W.Frag) (mg : Str → Option Value) (base : Heap) (k : Nat) (f : Addr) (ps : List Str) (fl : List Bool) (m : List D → RF) (fd : FuncData) : Prop where
  ok : FnOk P w K mg base (L2.CX P w) k f fd ps (spM K fl m)
  binds : Binds K fd ps []
  kp : PySem.W.keepIn K (.ref f) = true
section
variable {P : Program} {w : World} {K : PySem.W.Frag} {mg : Str → Option Value} {base : Heap} {x qual : Str} {params : Arguments} {body : List Stmt} {scope : Scope} {f : Addr} {fd : FuncData}
/-- the exit of a body -/
abbrev Wf (E : XK) : WX := fun cls d _ H => E cls d H
theorem post_def {fl : List Bool} {vs : List V} {n : Nat} {mb : MS} {ds : List D} {fp : List Addr} {H : Hp} {Q : VK} {E : XK} (hn : vs.length = fl.length)
    (q : match mDef n fl mb ds with
    | .ok d io => ∀ v H' fd fi, RO K H' d v fd → ROl K H' io (pick fl vs) fi → (fd ++ fi).Nodup → Tr fp H (fd ++ fi) H' → Q v H'
    | .exc x io => ∀ cls dd H' fi, RX K H' x cls dd → ROl K H' io (pick fl vs) fi → fi.Nodup → Tr fp H fi H' → E cls dd H'
    | .bad => False) : PostS K (Wf E) (pinOf fl vs) fp H { nx := fun _ H' => Q .non H', rt := Q } (mb (startD n ds)) := by
  unfold mDef at q
  generalize mb (startD n ds) = r at q ⊢
  cases r with
  | nx l =>
    dsimp only at q
    split at q
    · rename_i io e
      intro σ H' ⟨fq, a, b, c, d⟩
      split at e
      · rename_i io' e'
        cases e
        obtain ⟨fi, fr, u1, u2⟩ := io_ok a e' hn d
        have nd := (List.nodup_append.mp (u2.nodup_iff.mp b)).1
        exact q .non H' [] fi (.imm .non) u1 nd (c.less fun x hx => u2.mem_iff.mpr (List.mem_append_left _ hx))
      · cases e
    · rename_i e
      split at e <;> cases e
    · exact q.elim
  | rt d l =>
    dsimp only at q
    split at q
    · rename_i io e
      split at e
      · rename_i io' e'
        cases e
        intro v σ H' fd fq a b c t p
        obtain ⟨fi, fr, u1, u2⟩ := io_ok b e' hn p
        obtain ⟨n1, n2, n3⟩ := List.nodup_append.mp c
        have nd := (List.nodup_append.mp (u2.nodup_iff.mp n2)).1
        refine q v H' fd fi a u1 (List.nodup_append.mpr ⟨n1, nd, fun x hx y hy => n3 x hx y (u2.mem_iff.mpr (List.mem_append_left _ hy))⟩) (t.less fun x hx => ?_)
        rcases List.mem_append.mp hx with z | z
        · exact List.mem_append_left _ z
        · exact List.mem_append_right _ (u2.mem_iff.mpr (List.mem_append_left _ z))
      · cases e
    · rename_i e
      split at e <;> cases e
    · exact q.elim
  | exc y l =>
    dsimp only at q
    split at q
    · rename_i e
      split at e <;> cases e
    · rename_i io e
      split at e
      · rename_i io' e'
        cases e
        intro cls dd σ H' ⟨fq, a, b, c, d⟩ hx
        obtain ⟨fi, fr, u1, u2⟩ := io_ok a e' hn d
        have nd := (List.nodup_append.mp (u2.nodup_iff.mp b)).1
        exact q cls dd H' fi hx u1 nd (c.less fun x hx => u2.mem_iff.mpr (List.mem_append_left _ hx))
      · cases e
    · exact q.elim
  | bk l => exact q.elim
  | ct l => exact q.elim
  | bad => exact q.elim
theorem start_pin {fl : List Bool} {vs : List V} {N : List Str} : Pinned (pinOf fl vs) (L2.start N vs) := fun i v e => by
  unfold pinOf at e
  split at e
  · unfold L2.start
    have hi : i < vs.length := (List.getElem?_eq_some_iff.mp e).1
    rw [List.getElem?_append_left (by rw [List.length_map]; exact hi), List.getElem?_map, e]
    rfl
  · cases e
theorem fn_okM {N ps : List Str} {k : Nat} {fl : List Bool} {mb : MS} (F : FunD K x qual params body scope [] [] f fd) (S : FnScope N ps scope) (hl : fl.length = ps.length)
    (hbind : ∀ (kV doc pm : Value) (an : Option Addr) (cdv ct : Value) (us : List Value), us.length = ps.length → bindArgs (PySem.W.fnOf x qual params body scope .none kV doc pm an cdv ct) ⟨us, []⟩ = pure (ps.zip us))
    (hbody : ∀ (cdv : Value) (A : Around) (outer : List Env) (s : Shared) (H : Hp) (vs : List V) (E : XK), Room k (A.deeper (envOfC qual scope s.heap.objs.size f cdv)) → 
      PSs (cxOf (L2.CX P w) P w K mg base N qual scope f cdv A outer s H E) body (tS K (Wf E) (pinOf fl vs) mb)) : OkF P w K mg base (k + 1) f ps fl (mDef N.length fl mb) fd := by
  refine ⟨?_, F.bindsN hbind, F.kp⟩
  refine F.ok S (fun vs H Q E h => ?_) fun cdv A outer s H vs Q E hr h => ⟨_, hbody cdv A outer s H vs E hr, ?_⟩
  · obtain ⟨h1, _⟩ := h
    rw [h1, hl]
  · obtain ⟨h1, ds, fp, h2, h3, h4⟩ := h
    refine ⟨startD N.length ds, fp, ?_, h3, start_pin, post_def h1 h4⟩
    unfold startD L2.start
    rw [h2.length]
    exact rl_start _ h2
end
end FM

set_option maxHeartbeats 1000000
/-! FM14: unary minus; dicts with text or int keys. -/
namespace FM
open PySem PySem.Spec PyProof.Rows L2
section
variable {X : Cx} {W : WX} {a e : Expr} {ma me : M D} {pos : Pos}
theorem em_neg (ha : PE X a (tE X.K W ma)) : PE X (.UnaryOp .USub a pos) (tE X.K W (mOp gNeg (mCons ma mNil))) :=
  PEi (pe_un un_neg ha) fun σ H Q h => by
    obtain ⟨loc, fp, N, p⟩ := tE_in h
    refine seqE N ?_
    unfold mOp mCons mNil at p
    generalize ma loc = r at p ⊢
    cases r with
    | ok d l =>
      intro v H1 n1
      dsimp only at p
      split at p
      · rename_i d' hd
        obtain ⟨ds', e1, e2⟩ := Option.bind_eq_some_iff.mp hd
        obtain ⟨z, e3, q⟩ := Now.op oneg n1 e1 e2 p
        cases e3
        exact q
      · exact p.elim
    | exc x l => exact p
    | bad => exact p
end
/-! ### keys -/
def dk : D → Option Key
  | .int i => some (.inl i)
  | .str l => some (.inr ⟨l.toArray⟩)
  | _ => none
def lookD : List (D × D) → D → Option D
  | [], _ => none
  | (k, d) :: r, x => if dk k = dk x then some d else lookD r x
theorem dk_kv {K : PySem.W.Frag} {H : Hp} {d : D} {k : Key} {v : V} (h : dk d = some k) (r : RR K H d v) : v = kV k := by
  cases d <;> first | cases h
  · exact rr_int r
  · exact rr_str r
theorem look_ok {K : PySem.W.Frag} {H : Hp} {x : D} {k : Key} (hx : dk x = some k) : ∀ {ls : List (D × D)} {kvs : List (Key × V)}, RKs K H ls kvs →
    (∀ d, lookD ls x = some d → ∃ v, valV kvs k = some v ∧ RI K H d v) ∧ (lookD ls x = none → valV kvs k = none)
  | _, _, .nil => ⟨(fun d h => by cases h), fun _ => rfl⟩
  | _, _, .int (i := i) h r => by
    unfold lookD
    by_cases e : dk (.int i) = dk x
    · rw [if_pos e]
      rw [hx] at e
      have e : Sum.inl i = k := Option.some.inj e
      refine ⟨fun d hd => ?_, fun hd => by cases hd⟩
      cases hd
      exact ⟨_, valV_pos e, h⟩
    · rw [if_neg e]
      have e : ¬ (Sum.inl i : Key) = k := fun z => e (by rw [hx, ← z]; rfl)
      rw [valV_neg (p := ((Sum.inl i : Key), _)) e]
      exact look_ok hx r
  | _, _, .str (l := l) h r => by
    unfold lookD
    by_cases e : dk (.str l) = dk x
    · rw [if_pos e]
      rw [hx] at e
      have e : Sum.inr ⟨l.toArray⟩ = k := Option.some.inj e
      refine ⟨fun d hd => ?_, fun hd => by cases hd⟩
      cases hd
      exact ⟨_, valV_pos e, h⟩
    · rw [if_neg e]
      have e : ¬ (Sum.inr ⟨l.toArray⟩ : Key) = k := fun z => e (by rw [hx, ← z]; rfl)
      rw [valV_neg (p := ((Sum.inr ⟨l.toArray⟩ : Key), _)) e]
      exact look_ok hx r
/-! ### in, d[k] -/
abbrev rDin : R2 := fun x y H Q => ∃ a o, y = .ref a ∧ DGet H a x o ∧ Q (.bl o.isSome) H
abbrev rDnin : R2 := fun x y H Q => ∃ a o, y = .ref a ∧ DGet H a x o ∧ Q (.bl (!o.isSome)) H
abbrev rDix : R2 := fun x y H Q => ∃ a v, x = .ref a ∧ DGet H a y (some v) ∧ Q v H
def gDin : List D → Option D
  | [x, .dic ls] => if (dk x).isSome then some (.bl (lookD ls x).isSome) else none
  | _ => none
def gDnin : List D → Option D
  | [x, .dic ls] => if (dk x).isSome then some (.bl (!(lookD ls x).isSome)) else none
  | _ => none
def gDix : List D → Option D
  | [.dic ls, x] => if (dk x).isSome then lookD ls x else none
  | _ => none
section
variable {X : Cx} {K : PySem.W.Frag}
theorem op_din (hu : X.A.units + 1 < cLine) : OpR X (compareOp .In) rDin := by
  intro pins s σ H x y v u Q I rx ry h
  obtain ⟨a, o, rfl, g, q⟩ := h
  obtain rfl : u = Value.ref a := ry
  exact d_in hu I g rx fun s' I' => ⟨.bl _, H, I', rfl, q⟩
theorem op_dnin (hu : X.A.units + 1 < cLine) : OpR X (compareOp .NotIn) rDnin := by
  intro pins s σ H x y v u Q I rx ry h
  obtain ⟨a, o, rfl, g, q⟩ := h
  obtain rfl : u = Value.ref a := ry
  exact d_notIn hu I g rx fun s' I' => ⟨.bl _, H, I', rfl, q⟩
theorem dget_of {H : Hp} {ls : List (D × D)} {x : D} {v y : V} (hs : (dk x).isSome = true) (r1 : RR K H x v) (r2 : RR K H (.dic ls) y) : ∃ a o, y = .ref a ∧ DGet H a v o ∧ o.isSome = (lookD ls x).isSome ∧ ∀ d, lookD ls x = some d → ∃ w, o = some w ∧ RI K H d w := by
  obtain ⟨k, hk⟩ := Option.isSome_iff_exists.mp hs
  obtain ⟨a, kvs, rfl, h, r⟩ := rr_dic r2
  obtain rfl := dk_kv hk r1
  obtain ⟨h1, h2⟩ := look_ok hk r
  refine ⟨a, _, rfl, .inl ⟨kvs, k, h, rfl, rfl⟩, ?_, h1⟩
  cases e : lookD ls x with
  | none => exact congrArg Option.isSome (h2 e)
  | some d =>
    obtain ⟨w, e2, _⟩ := h1 d e
    rw [e2]
    rfl
theorem odin : OpM K (r2l rDin) gDin := by
  intro H ds vs d Q hr hg q
  unfold gDin at hg
  split at hg
  · split at hg
    · rename_i hs
      cases hg
      obtain ⟨v, y, rfl, r1, r2⟩ := rrs2 hr
      obtain ⟨a, o, rfl, h1, h2, h3⟩ := dget_of hs r1 r2
      refine ⟨v, _, rfl, a, o, rfl, h1, ?_⟩
      rw [h2]
      exact q _ H [] (.imm (.bl _))
    · cases hg
  · cases hg
theorem odnin : OpM K (r2l rDnin) gDnin := by
  intro H ds vs d Q hr hg q
  unfold gDnin at hg
  split at hg
  · split at hg
    · rename_i hs
      cases hg
      obtain ⟨v, y, rfl, r1, r2⟩ := rrs2 hr
      obtain ⟨a, o, rfl, h1, h2, h3⟩ := dget_of hs r1 r2
      refine ⟨v, _, rfl, a, o, rfl, h1, ?_⟩
      rw [h2]
      exact q _ H [] (.imm (.bl _))
    · cases hg
  · cases hg
theorem odix : OpM K (r2l rDix) gDix := by
  intro H ds vs d Q hr hg q
  unfold gDix at hg
  split at hg
  · split at hg
    · rename_i hs
      obtain ⟨y, v, rfl, r2, r1⟩ := rrs2 hr
      obtain ⟨a, o, rfl, h1, h2, h3⟩ := dget_of hs r1 r2
      obtain ⟨w, rfl, h4⟩ := h3 _ hg
      exact ⟨_, v, rfl, a, w, rfl, h1, q w H [] (.imm h4)⟩
    · cases hg
  · cases hg
end
section
variable {X : Cx} {W : WX} {o i : Expr} {mo mi : M D} {pos : Pos}
theorem em_dix (hu : X.A.units + 1 < cLine) (ho : PE X o (tE X.K W mo)) (hi : PE X i (tE X.K W mi)) (hs : NoSl i) : PE X (.Subscript o i pos) (tE X.K W (mOp gDix (mCons mo (mCons mi mNil)))) :=
  PEi (pe_dget hu ho hi hs) fun σ H Q h => op2_in odix h
end
/-! ### {k: v, ..} -/
theorem mergeK_nd : ∀ {more kvs : List (Key × V)}, (∀ p ∈ kvs, ∀ q ∈ more, p.1 ≠ q.1) → (more.map (·.1)).Nodup → mergeK kvs more = kvs ++ more
  | [], kvs, _, _ => (List.append_nil _).symm
  | q :: more, kvs, h, nd => by
    rw [List.map_cons, List.nodup_cons] at nd
    have e : putK kvs q.1 q.2 = kvs ++ [q] := by
      unfold putK
      rw [if_neg]
      rw [List.any_eq_true]
      rintro ⟨p, hp, e⟩
      exact h p hp q List.mem_cons_self (of_decide_eq_true e)
    have ih := mergeK_nd (more := more) (kvs := kvs ++ [q]) (fun p hp r hr => by
      rcases List.mem_append.mp hp with z | z
      · exact h p z r (List.mem_cons_of_mem _ hr)
      · rw [List.mem_singleton.mp z]
        intro e
        exact nd.1 (e ▸ List.mem_map_of_mem hr)) nd.2
    unfold mergeK at ih ⊢
    rw [List.foldl_cons, e, ih, List.append_assoc]
    rfl
theorem nodup_some {α : Type} : ∀ {l : List α}, (l.map some).Nodup → l.Nodup
  | [], _ => List.nodup_nil
  | a :: l, h => by
    rw [List.map_cons, List.nodup_cons] at h
    exact List.nodup_cons.mpr ⟨fun z => h.1 (List.mem_map_of_mem z), nodup_some h.2⟩
def pairUp : List V → List (V × V)
  | x :: y :: r => (x, y) :: pairUp r
  | _ => []
def pairD : List D → Option (List (D × D))
  | [] => some []
  | k :: d :: r => if (dk k).isSome && isImm d then (match pairD r with
    | some l => some ((k, d) :: l)
    | none => none) else none
  | _ => none
def mDic (ms : M (List D)) : M D := fun l => match ms l with
  | .ok ds l1 => (match pairD ds with
    | some ls => if decide (ls.length ≤ 15) && decide ((ls.map fun q => dk q.1).Nodup) then .ok (.odi ls) l1 else .bad
    | none => .bad)
  | .exc x l1 => .exc x l1
  | .bad => .bad
section
variable {X : Cx} {W : WX} {pos : Pos}
theorem prs_nil {σ : L2.St} {H : Hp} {Q : List (V × V) → Hp → Prop} (h : tA X.K W mNil σ H fun vs H' => Q (pairUp vs) H') : tPairs [] σ H Q := by
  obtain ⟨loc, fp, N, p⟩ := tA_in h
  exact p [] H N
theorem prs_cons {mk mv : M D} {ms : M (List D)} {trs : List (TE × TE)} (ih : ∀ {σ : L2.St} {H : Hp} {Q : List (V × V) → Hp → Prop}, (tA X.K W ms σ H fun vs H' => Q (pairUp vs) H') → tPairs trs σ H Q)
    {σ : L2.St} {H : Hp} {Q : List (V × V) → Hp → Prop} (h : tA X.K W (mCons mk (mCons mv ms)) σ H fun vs H' => Q (pairUp vs) H') : tPairs ((tE X.K W mk, tE X.K W mv) :: trs) σ H Q := by
  obtain ⟨loc, fp, N, p⟩ := tA_in h
  refine seqE N ?_
  unfold mCons at p
  generalize mk loc = r at p ⊢
  cases r with
  | ok d l =>
    intro v H1 n1
    refine seqE n1 ?_
    dsimp only at p
    generalize mv l = r2 at p ⊢
    cases r2 with
    | ok d2 l2 =>
      intro v2 H2 n2
      refine ih (seqA n2 ?_)
      dsimp only at p
      generalize ms l2 = r3 at p ⊢
      cases r3 with
      | ok ds l3 =>
        intro vs H3 n3
        exact p (v :: v2 :: vs) H3 n3
      | exc x l => exact p
      | bad => exact p
    | exc x l => exact p
    | bad => exact p
  | exc x l => exact p
  | bad => exact p
theorem imm_nb {d : D} (h : isImm d = true) : ∀ i, d ≠ .brw i := fun i e => by
  subst e
  cases h
theorem pair_of {K : PySem.W.Frag} {H : Hp} {σ : L2.St} : ∀ {ds : List D} {ls : List (D × D)} {vs : List V} {f : List Addr}, pairD ds = some ls → RVs K H σ ds vs f → f = [] ∧ ∃ kvs, RKs K H ls kvs ∧ pairUp vs = kvs.map (fun kv => (kV kv.1, kv.2)) ∧ kvs.map (fun q => some q.1) = ls.map fun q => dk q.1
  | [], ls, _, _, h, .nil => by
    cases h
    exact ⟨rfl, [], .nil, rfl, rfl⟩
  | [_], _, _, _, h, _ => by cases h
  | k :: d :: r, ls, _, _, h, .cons h1 (.cons h2 hr) => by
    unfold pairD at h
    split at h
    · rename_i hc
      obtain ⟨c1, c2⟩ := Bool.and_eq_true_iff.mp hc
      split at h
      · rename_i l e
        cases h
        obtain ⟨e1, kvs, i1, i2, i3⟩ := pair_of e hr
        have r2 := imm_ri h2 c2
        obtain ⟨ky, hk⟩ := Option.isSome_iff_exists.mp c1
        have f2 : ∀ {d : D} {v : V} {f : List Addr}, RV K H σ d v f → isImm d = true → f = [] := fun {d v f} z c => by
          rcases z with z | ⟨i, e, _, e3⟩
          · cases z with
            | imm _ => rfl
            | own _ _ => cases c
            | odi _ _ => cases c
            | obj _ _ => cases c
          · exact e3
        rw [f2 h2 c2, e1]
        cases k <;> first | cases hk
        · rename_i j
          have r1 := imm_ri h1 rfl
          rw [f2 h1 rfl]
          cases r1
          refine ⟨rfl, (.inl j, _) :: kvs, .int r2 i1, ?_, ?_⟩
          · show (_, _) :: pairUp _ = _
            rw [i2]
            rfl
          · rw [List.map_cons, List.map_cons, i3]
            rfl
        · rename_i j
          have r1 := imm_ri h1 rfl
          rw [f2 h1 rfl]
          cases r1
          refine ⟨rfl, (.inr ⟨j.toArray⟩, _) :: kvs, .str r2 i1, ?_, ?_⟩
          · show (_, _) :: pairUp _ = _
            rw [i2]
            rfl
          · rw [List.map_cons, List.map_cons, i3]
            rfl
      · cases h
    · cases h
theorem em_dic {keys : List (Option Expr)} {values : List Expr} {trs : List (TE × TE)} {ms : M (List D)} (h : PPs X pos keys values trs)
    (ht : ∀ {σ : L2.St} {H : Hp} {Q : List (V × V) → Hp → Prop}, (tA X.K W ms σ H fun vs H' => Q (pairUp vs) H') → tPairs trs σ H Q)
    (hall : keys.all (·.isSome) = true := by rfl) (hl : keys.length = values.length := by rfl) (h0 : keys ≠ [] := by intro z; cases z) (h15 : keys.length ≤ 15 := by decide) : PE X (.Dict keys values pos) (tE X.K W (mDic ms)) :=
  PEi (pe_disp h hall hl h0 h15) fun σ H Q q => by
    intro p hp
    obtain ⟨loc, fp, hl, nd, q⟩ := q
    have ex : Ext H (upd H p (.dK [])) := .new hp
    have pf : p ∉ fp := fun hm => by
      obtain ⟨o, e⟩ := hl.there' p hm
      rw [hp] at e
      cases e
    refine ht (seqA (now0 (hl.keep ex.kp (ex.kpO hl.there')) nd) ?_)
    unfold mDic at q
    generalize ms loc = r at q ⊢
    cases r with
    | ok ds l =>
      intro vs H2 ⟨ft, fq, z1, z2, z3, z4⟩
      dsimp only at q
      split at q
      · rename_i ls hls
        split at q
        · rename_i hc
          obtain ⟨c1, c2⟩ := Bool.and_eq_true_iff.mp hc
          have c1 := of_decide_eq_true c1
          have c2 := of_decide_eq_true c2
          obtain ⟨rfl, kvs, k1, k2, k3⟩ := pair_of hls z1
          have hp2 : H2 p = some (.dK []) := z4.fr p _ upd_same pf
          have pq : p ∉ fq := fun hm => by
            rcases z4.new p hm with z | z
            · exact pf z
            · rw [upd_same] at z
              cases z
          refine ⟨hp2, kvs, k2, ?_, ?_⟩
          · have := congrArg List.length k3
            rw [List.length_map, List.length_map] at this
            omega
          · have nk : (kvs.map (·.1)).Nodup := by
              rw [← k3] at c2
              have : kvs.map (fun q => some q.1) = (kvs.map (·.1)).map some := by rw [List.map_map]; rfl
              rw [this] at c2
              exact nodup_some c2
            rw [mergeK_nd (by intro p hp; cases hp) nk, List.nil_append]
            have kp : Kp H2 (upd H2 p (.dK kvs)) := by
              refine ⟨fun b vs h => ?_, fun b o w h => ?_⟩
              · rw [upd_ne]
                · exact h
                · rintro rfl
                  rw [hp2] at h
                  cases h
              · rw [upd_ne]
                · exact h
                · rintro rfl
                  rw [hp2] at h
                  cases h
            refine q _ _ ⟨[p], fq, .one (.inl (.odi upd_same (k1.keep kp))), z2.keep kp (fun b hb => by rw [upd_ne]; rintro rfl; exact pq hb), ?_, ?_⟩
            · exact List.nodup_append.mpr ⟨by simp, z3, fun x hx y hy e => pq (by rw [← List.mem_singleton.mp hx, e]; exact hy)⟩
            · refine ⟨fun b o h hn => ?_, (ex.kp.trans z4.kp).trans kp, fun b hb => ?_⟩
              · have ne : b ≠ p := by
                  rintro rfl
                  rw [hp] at h
                  cases h
                rw [upd_ne ne]
                exact z4.fr b o (ex b o h) hn
              · rcases List.mem_append.mp hb with z | z
                · rw [List.mem_singleton.mp z]
                  exact .inr hp
                · rcases z4.new b z with y | y
                  · exact .inl y
                  · refine .inr ?_
                    by_cases e : b = p
                    · rw [e]
                      exact hp
                    · rw [upd_ne e] at y
                      exact y
        · exact q.elim
      · exact q.elim
    | exc x l =>
      intro cls dd H2 ⟨ft, fq, z1, z2, z3, z4⟩ hx
      refine q cls dd H2 ⟨ft, fq, z1, z2, z3, ?_⟩ hx
      exact ⟨fun b o h hn => z4.fr b o (ex b o h) hn, ex.kp.trans z4.kp, fun b hb => by
        rcases z4.new b hb with y | y
        · exact .inl y
        · refine .inr ?_
          cases e : H b with
          | none => rfl
          | some o =>
            rw [ex b o e] at y
            cases y⟩
    | bad => exact q
end
end FM

set_option maxHeartbeats 1000000
/-! FM15: odds and ends for the printer. -/
namespace FM
open PySem PySem.Spec PyProof.Rows L2
def LenN (n : Nat) (ms : M (List D)) : Prop := ∀ l ds l1, ms l = .ok ds l1 → ds.length = n
theorem len_nil : LenN 0 mNil := fun l ds l1 h => by
  cases h
  rfl
theorem len_cons {n : Nat} {m : M D} {ms : M (List D)} (h : LenN n ms) : LenN (n + 1) (mCons m ms) := fun l ds l1 e => by
  unfold mCons at e
  split at e
  · split at e
    · rename_i e2
      cases e
      rw [List.length_cons, h _ _ _ e2]
    · cases e
    · cases e
  · cases e
  · cases e
theorem room65 {k : Nat} {A : Around} (r : Room k A) : A.units + 65 < cLine := by have := r.un; omega
theorem room1 {k : Nat} {A : Around} (r : Room k A) : A.units + 1 < cLine := by have := r.un; omega
section
variable {P : Program} {w : World} {K : PySem.W.Frag} {mg : Str → Option Value} {base : Heap} {x qual : Str} {params : Arguments} {body : List Stmt} {scope : Scope} {f : Addr} {fd : FuncData}
theorem ok_bad {ps : List Str} {k : Nat} {fl : List Bool} (F : FunD K x qual params body scope [] [] f fd)
    (hbind : ∀ (kV doc pm : Value) (an : Option Addr) (cdv ct : Value) (us : List Value), us.length = ps.length → bindArgs (PySem.W.fnOf x qual params body scope .none kV doc pm an cdv ct) ⟨us, []⟩ = pure (ps.zip us)) : OkF P w K mg base k f ps fl (fun _ => .bad) fd := by
  refine ⟨⟨fun vs H Q E h => ?_, fun A outer s H args us vs Q E _ _ _ _ h => ?_⟩, F.bindsN hbind, F.kp⟩
  · obtain ⟨_, ds, fp, _, _, z⟩ := h
    exact z.elim
  · obtain ⟨_, ds, fp, _, _, z⟩ := h
    exact z.elim
end
end FM

set_option maxHeartbeats 1000000
/-! FM16: texts of ints. -/
namespace FM
open PySem PySem.Spec PyProof.Rows L2
theorem digs_nat (n : Nat) : digs (n : Int) = TL.numL n := TL.tl_num n
theorem digs_negSucc (m : Nat) : digs (Int.negSucc m) = 45 :: TL.numL (m + 1) := by
  unfold digs
  rw [TL.tl_ofString]
  have h : toString (Int.negSucc m) = "-" ++ toString (m + 1) := rfl
  have h2 := TL.tl_num (m + 1)
  rw [TL.tl_ofString] at h2
  have h3 : toString (((m + 1 : Nat) : Int)) = toString (m + 1) := rfl
  rw [h3] at h2
  rw [h, String.toList_append, List.map_append, h2]
  rfl
def Sm (i : Int) : Prop := i.natAbs < 10 ^ 60
theorem digs_cases (i : Int) : (∃ n : Nat, i = n ∧ digs i = TL.numL n) ∨ ∃ m : Nat, i = Int.negSucc m ∧ digs i = 45 :: TL.numL (m + 1) := by
  cases i with
  | ofNat n => exact .inl ⟨n, rfl, digs_nat n⟩
  | negSucc m => exact .inr ⟨m, rfl, digs_negSucc m⟩
theorem digs_len {i : Int} (h : Sm i) : (digs i).length ≤ 61 := by
  rcases digs_cases i with ⟨n, rfl, e⟩ | ⟨m, rfl, e⟩
  · rw [e]
    have := TL.numL_len (n := n) (k := 60) (by decide) h
    omega
  · rw [e, List.length_cons]
    have := TL.numL_len (n := m + 1) (k := 60) (by decide) h
    omega
theorem digs_free {i : Int} {s : Nat} (h : s < 45 ∨ 57 < s) : s ∉ digs i := by
  rcases digs_cases i with ⟨n, rfl, e⟩ | ⟨m, rfl, e⟩
  · rw [e]
    exact TL.numL_free (by omega)
  · rw [e]
    intro z
    rcases List.mem_cons.mp z with z | z
    · omega
    · exact TL.numL_free (by omega) z
theorem digs_text {i : Int} (h : Sm i) : intText? ⟨(digs i).toArray⟩ = some i := by
  rcases digs_cases i with ⟨n, rfl, e⟩ | ⟨m, rfl, e⟩
  · have l := TL.numL_len (n := n) (k := 60) (by decide) h
    rw [e]
    have := PySem.intText_digits (x := ⟨(TL.numL n).toArray⟩) (TL.numL_digits n) (TL.numL_ne n) (by
      have : (⟨(TL.numL n).toArray⟩ : Str).length = (TL.numL n).length := TL.len_tl _
      omega)
    rw [this]
    show some ((NumText.digitsVal (TL.numL n) : Nat) : Int) = _
    rw [TL.numL_val]
  · have l := TL.numL_len (n := m + 1) (k := 60) (by decide) h
    rw [e]
    have := PySem.intText_neg (x := ⟨(45 :: TL.numL (m + 1)).toArray⟩) (cs := TL.numL (m + 1)) rfl (TL.numL_digits _) (TL.numL_ne _) (by
      have : (⟨(45 :: TL.numL (m + 1)).toArray⟩ : Str).length = (45 :: TL.numL (m + 1)).length := TL.len_tl _
      rw [List.length_cons] at this
      omega)
    rw [this, TL.numL_val]
    rfl
theorem sm_log {i : Int} (h : Sm i) : i.natAbs.log2 < 1920 := by
  by_cases h0 : i.natAbs = 0
  · rw [h0]
    decide
  · exact (Nat.log2_lt h0).mpr (Nat.lt_of_lt_of_le h (Nat.le_trans (by decide : 10 ^ 60 ≤ 2 ^ 200) (Nat.pow_le_pow_right (by decide) (by decide))))
/-- a digits' text begins by no 0, but 0's own -/
theorem numL_head (n : Nat) : 0 < n → ∃ c r, TL.numL n = c :: r ∧ c ≠ 48 := by
  induction n using Nat.strongRecOn with
  | _ n ih =>
    intro h0
    by_cases h : n < 10
    · refine ⟨48 + n, [], TL.numL_lt h, by omega⟩
    · obtain ⟨c, r, e, hc⟩ := ih (n / 10) (by omega) (by omega)
      exact ⟨c, r ++ [48 + n % 10], by rw [TL.numL_step (by omega), e]; rfl, hc⟩
end FM

set_option maxHeartbeats 1000000
/-! FM17: loops by invariants; slices. -/
namespace FM
open PySem PySem.Spec PyProof.Rows L2
theorem cut01 {α : Type} (xs : List α) (k : Nat) : cutD xs none (some (k : Int)) = xs.take k := by
  unfold cutD
  rw [HT.sIx_none, HT.sIx_nat, List.drop_zero, Nat.sub_zero]
  rcases Nat.le_total k xs.length with h | h
  · rw [Nat.min_eq_left h]
  · rw [Nat.min_eq_right h, List.take_length, List.take_of_length_le h]
theorem cut10 {α : Type} (xs : List α) (k : Nat) : cutD xs (some (k : Int)) none = xs.drop k := by
  unfold cutD
  rw [HT.sIx_none, HT.sIx_nat]
  rcases Nat.le_total k xs.length with h | h
  · rw [Nat.min_eq_left h, List.take_of_length_le (by rw [List.length_drop]; omega)]
  · rw [Nat.min_eq_right h, List.drop_of_length_le h, List.drop_of_length_le (Nat.le_refl _), List.take_nil]
theorem cutm1 {α : Type} (xs : List α) : cutD xs none (some (-1)) = xs.dropLast := by
  unfold cutD
  rw [HT.sIx_none, List.drop_zero, Nat.sub_zero, List.dropLast_eq_take]
  have : HT.sIx xs.length xs.length (some (-1)) = xs.length - 1 := by
    show (if (-1 : Int) < 0 then ((-1 : Int) + (xs.length : Int)).toNat else min (-1 : Int).toNat xs.length) = _
    rw [if_pos (show (-1 : Int) < 0 by decide)]
    omega
  rw [this]
theorem cut01_1 {α : Type} (xs : List α) : cutD xs none (some 1) = xs.take 1 := cut01 xs 1
theorem cut10_1 {α : Type} (xs : List α) : cutD xs (some 1) none = xs.drop 1 := cut10 xs 1
/-- [f x for x in ds] -/
theorem lc_map {v : Nat} {l : Loc} {te : M D} {f : D → D} (hl : l.set v none = l) : ∀ {ds acc : List D}, (∀ d ∈ ds, te (l.set v (some d)) = .ok (f d) (l.set v (some d)) ∧ isImm (f d) = true) → acc.length + ds.length ≤ 16777216 →
    loopC [v] (gN v) mYes te ds acc l = some (acc ++ ds.map f, l)
  | [], acc, _, _ => by
    unfold loopC
    rw [List.map_nil, List.append_nil]
  | d :: ds, acc, h, hn => by
    obtain ⟨h1, h2⟩ := h d List.mem_cons_self
    rw [List.length_cons] at hn
    unfold loopC gN mYes
    dsimp only
    rw [h1]
    dsimp only
    rw [h2, decide_eq_true (by omega : acc.length < 16777216)]
    have e : wipeL (l.set v (some d)) [v] = l := by
      show ((l.set v (some d)).set v none) = l
      rw [List.set_set, hl]
    rw [e]
    simp only [Bool.and_true, if_true]
    have ih := lc_map (v := v) (te := te) (f := f) hl (ds := ds) (acc := acc ++ [f d]) (fun x hx => h x (List.mem_cons_of_mem _ hx)) (by rw [List.length_append, List.length_singleton]; omega)
    unfold gN mYes at ih
    rw [ih, List.map_cons, List.append_assoc]
    rfl
/-- .. with what goes on in the other slots -/
theorem lc_inv {v : Nat} {te : M D} {P : Loc → Prop} {R : D → Prop} : ∀ {ds acc : List D} {l : Loc}, P l → (∀ d ∈ ds, ∀ l, P l → ∃ y l', te (l.set v (some d)) = .ok y l' ∧ isImm y = true ∧ R y ∧ P (wipeL l' [v])) → acc.length + ds.length ≤ 16777216 →
    ∃ ys l', loopC [v] (gN v) mYes te ds acc l = some (acc ++ ys, l') ∧ P l' ∧ ys.length = ds.length ∧ ∀ y ∈ ys, R y
  | [], acc, l, hl, _, _ => ⟨[], l, by unfold loopC; rw [List.append_nil], hl, rfl, fun y hy => by cases hy⟩
  | d :: ds, acc, l, hl, h, hn => by
    obtain ⟨y, l1, h1, h2, h3, h4⟩ := h d List.mem_cons_self l hl
    rw [List.length_cons] at hn
    obtain ⟨ys, l2, e1, e2, e3, e4⟩ := lc_inv (v := v) (te := te) (P := P) (R := R) (ds := ds) (acc := acc ++ [y]) h4 (fun x hx => h x (List.mem_cons_of_mem _ hx)) (by rw [List.length_append, List.length_singleton]; omega)
    refine ⟨y :: ys, l2, ?_, e2, by rw [List.length_cons, List.length_cons, e3], fun z hz => ?_⟩
    · unfold loopC
      unfold gN mYes at e1 ⊢
      dsimp only
      rw [h1]
      dsimp only
      rw [h2, decide_eq_true (by omega : acc.length < 16777216)]
      simp only [Bool.and_true, if_true]
      rw [e1, List.append_assoc]
      rfl
    · rcases List.mem_cons.mp hz with z' | z'
      · rw [z']
        exact h3
      · exact e4 z z'
theorem for_inv {t : MG} {b : MS} {P : List D → Loc → Prop} (h : ∀ d ds l, P (d :: ds) l → ∃ l1 l2, t d l = some l1 ∧ b l1 = .nx l2 ∧ P ds l2) : ∀ {ds : List D} {l : Loc}, P ds l → ∃ l', loopF t b ds l = .nx l' ∧ P [] l'
  | [], l, p => ⟨l, rfl, p⟩
  | d :: ds, l, p => by
    obtain ⟨l1, l2, h1, h2, h3⟩ := h d ds l p
    obtain ⟨l', e1, e2⟩ := for_inv h h3
    refine ⟨l', ?_, e2⟩
    unfold loopF
    rw [h1]
    dsimp only
    rw [h2]
    exact e1
theorem while_step {t : M Bool} {b : MS} {l l1 l2 : Loc} {n : Nat} {r : RS} (h1 : t l = .ok true l1) (h2 : b l1 = .nx l2) (h3 : loopW t b n l2 = r) : loopW t b (n + 1) l = r := by
  unfold loopW
  rw [h1]
  dsimp only
  rw [h2]
  exact h3
theorem while_end {t : M Bool} {b : MS} {l l1 : Loc} {n : Nat} (h1 : t l = .ok false l1) : loopW t b (n + 1) l = .nx l1 := by
  unfold loopW
  rw [h1]
theorem ints_map : ∀ l : List Int, ints? (l.map .int) = some l
  | [] => rfl
  | i :: r => by
    show (ints? (r.map .int)).map (i :: ·) = _
    rw [ints_map r]
    rfl
theorem strs_map : ∀ l : List (List Nat), strs? (l.map .str) = some l
  | [] => rfl
  | i :: r => by
    show (strs? (r.map .str)).map (i :: ·) = _
    rw [strs_map r]
    rfl
theorem bls_map : ∀ l : List Bool, bls? (l.map .bl) = some l
  | [] => rfl
  | i :: r => by
    show (bls? (r.map .bl)).map (i :: ·) = _
    rw [bls_map r]
    rfl
end FM

set_option maxHeartbeats 1000000
/-! FM18: a law's end, the exceptions' reading by world. -/
namespace FM
open PySem PySem.Spec PyProof.Rows L2
theorem walk_w {l : PySem.W.OpenLaw} {n k : Nat} {q : Program} {loose : List Str} {XP : (Str → Option Value) → Heap → Prop} {YP : World → Heap → Prop} {d : DefRec} {cx : World → CXT} {x : Str} (hn : l.most = some n) (hn2 : n ≤ sizeLine) (hdf : d.params.defaults = []) (hr : Room k callerA)
    (F : ∀ (w : World) (mg : Str → Option Value) (fa : Addr) (h : Heap), YP w h → h.Ns mainGlobals mg → mg d.name = some (.ref fa) → ∃ (K : PySem.W.Frag) (fd : FuncData) (sp : Sp), K.In h ∧ (∀ (s : Shared) (u : Value), BindsTo s fd ⟨[u], []⟩ [(x, u)]) ∧
      (∀ (H : Hp) (a : Addr) (ns : List Int), ns.length ≤ n → Only H → SqL K H a (ns.map V.int) → sp [.ref a] H (fun v _ => v = .bl true) fun _ _ _ => False) ∧ ∀ base : Heap, K.In base → base.Ns mainGlobals mg → FnOk l.prog w K mg base (cx w) k fa fd [x] sp)
    (hc : ∀ (w : World) (H : Hp) (s : Shared) (e : Value) (s' : Shared), cx w [] H s (fun _ _ _ => False) e s' → False) : PySem.W.WalkO q loose XP YP l.row.toRowW d [] (fun f vs => PySem.call f vs) :=
  Att.attach_call hn hdf fun w s₀ s₁ mg mb fa o pm cd doc a vs ns G Y ho hd hcd hmg hobj hints hlen hg =>
    let ⟨_, _, _, X, hb, hs, hF⟩ := F w mg fa _ Y G.T.g hmg
    law_call X G.T.g G.T.b G.T.builtins G.T.nolimit hg hobj hints (Nat.le_trans hlen hn2) hr hF hb (fun H hO hS => hs H a ns hlen hO hS) fun H e s' => hc w H s₁ e s'
end FM

set_option maxHeartbeats 1000000
/-! FM19: name += e by ints, by texts. -/
namespace FM
open PySem PySem.Spec PyProof.Rows L2
abbrev rAug : R2 := fun x y H Q => rI0 (fun i j => .int (i + j)) x y H Q ∨ ∃ i j, x = .str i ∧ y = .str j ∧ i.length + j.length ≤ sizeLine ∧ Q (.str (i ++ j)) H
def gAug : List D → Option D
  | [.int i, .int j] => some (.int (i + j))
  | [.str a, .str b] => if a.length + b.length ≤ 16777216 then some (.str (a ++ b)) else none
  | _ => none
theorem iop_aug {X : Cx} : OpR X (inplaceOp .Add) rAug := fun pins s σ H x y v u Q I rx ry h => h.elim (fun h => iop_add pins s σ H x y v u Q I rx ry h) fun h => iop_add_str pins s σ H x y v u Q I rx ry h
theorem oaug {K : PySem.W.Frag} : OpM K (r2l rAug) gAug := by
  intro H ds vs d Q hr hg q
  unfold gAug at hg
  split at hg
  · cases hg
    obtain ⟨x, y, rfl, hx, hy⟩ := rrs2 hr
    obtain rfl := rr_int hx
    obtain rfl := rr_int hy
    exact ⟨_, _, rfl, .inl ⟨_, _, rfl, rfl, q _ H [] (.imm (.int _))⟩⟩
  · split at hg
    · rename_i a b hl
      cases hg
      obtain ⟨x, y, rfl, hx, hy⟩ := rrs2 hr
      obtain rfl := rr_str hx
      obtain rfl := rr_str hy
      refine ⟨_, _, rfl, .inr ⟨_, _, rfl, rfl, ?_, ?_⟩⟩
      · have l1 : (mkS a).length = a.length := TL.len_tl _
        have l2 : (mkS b).length = b.length := TL.len_tl _
        rw [l1, l2, sizeLine_eq]
        exact hl
      · have e : mkS a ++ mkS b = mkS (a ++ b) := TL.ext_tl (by rw [TL.tl_append])
        rw [e]
        exact q _ H [] (.imm (.str _))
    · cases hg
  · cases hg
end FM

set_option maxHeartbeats 4000000

namespace K84
open PySem PySem.Spec PyProof.Rows L2 FM
noncomputable section
def m_is_integer (C : Addr) : MS := mSeq (mSet 1 (mFrz (mIf (mTest (mOp gEq (mCons (mOp gSl (mCons (mVar 0) (mCons (mC .non) (mCons (mInt (mC (.int 1))) mNil)))) (mCons (mC (.str [45])) mNil)))) (mFrz (mOp gSl (mCons (mVar 0) (mCons (mInt (mC (.int 1))) (mCons (mC .non) mNil))))) (mVar 0)))) (mSeq (mIfS (mOr (mNot (mTest (mChain gLe gLe (mC (.int 1)) (mOp gLen (mCons (mVar 1) (mNil))) (mC (.int 60))))) (mNot (mTru (mOp gAll (mCons (mLC [2] (mIt (mVar 1)) (gN 2) (mYes) (mOp gIn (mCons (mVar 2) (mCons (mC (.str [48, 49, 50, 51, 52, 53, 54, 55, 56, 57])) mNil)))) (mNil)))))) (mRet (mC (.bl false))) (mNop)) (mSeq (mIfS (mTest (mOp gEq (mCons (mOp gIx (mCons (mVar 1) (mCons (mC (.int 0)) mNil))) (mCons (mC (.str [48])) mNil)))) (mRet (mOp gEq (mCons (mVar 0) (mCons (mC (.str [48])) mNil)))) (mNop)) (mRet (mC (.bl true)))))
def F_is_integer (C : Addr) : List D → RF := mDef 3 [false] (m_is_integer C)
def m_numbers_of (C : Addr) : MS := mSeq (mIfS (mNot (mTru (mOp gAll (mCons (mLC [1] (mIt (mVar 0)) (gN 1) (mYes) (mCall [false] (F_is_integer C) (mCons (mVar 1) (mNil)))) (mNil))))) (mRet (mC .non)) (mNop)) (mRet (mOp gTuple (mCons (mLC [1] (mIt (mVar 0)) (gN 1) (mYes) (mOp gInt (mCons (mVar 1) (mNil)))) (mNil))))
def F_numbers_of (C : Addr) : List D → RF := mDef 2 [false] (m_numbers_of C)
def m_lines_of (C : Addr) : MS := mSeq (mSet 1 (mFrz (mStr1 gSplit (mVar 0) (mC (.str [10]))))) (mSeq (mSet 2 (mLC [3] (mIt (mFrz (mOp gSl (mCons (mVar 1) (mCons (mC .non) (mCons (mInt (mOp gNeg (mCons (mC (.int 1)) mNil))) mNil)))))) (gN 3) (mYes) (mTup (mCons (mVar 3) (mCons (mC (.bl true)) (mNil)))))) (mSeq (mIfS (mTest (mOp gNe (mCons (mOp gIx (mCons (mVar 1) (mCons (mOp gNeg (mCons (mC (.int 1)) mNil)) mNil))) (mCons (mC (.str [])) mNil)))) (mExpr (mMut 2 gApp (mCons (mTup (mCons (mOp gIx (mCons (mVar 1) (mCons (mOp gNeg (mCons (mC (.int 1)) mNil)) mNil))) (mCons (mC (.bl false)) (mNil)))) (mNil)))) (mNop)) (mRet (mMov (mVar 2)))))
def F_lines_of (C : Addr) : List D → RF := mDef 4 [false] (m_lines_of C)
def m_line (C : Addr) : MS := mRet (mOp gAdd (mCons (mStr1 gJoin (mC (.str [32])) (mOp gAdd (mCons (mLst (mCons (mVar 0) (mNil))) (mCons (mLC [2] (mIt (mVar 1)) (gN 2) (mYes) (mOp gStr (mCons (mVar 2) (mNil)))) mNil)))) (mCons (mC (.str [10])) mNil)))
def F_line (C : Addr) : List D → RF := mDef 3 [false, false] (m_line C)
def m_Lines_init (C : Addr) : MS := mSeq (mSetF 0 C "rows" (mFrz (mCall [false] (F_lines_of C) (mCons (mVar 1) (mNil))))) (mSetF 0 C "at" (mC (.int 0)))
def F_Lines_init (C : Addr) : List D → RF := mDef 2 [true, false] (m_Lines_init C)
def m_Lines_is_done (C : Addr) : MS := mRet (mOp gGe (mCons (mFld 0 C "at") (mCons (mOp gLen (mCons (mFld 0 C "rows") (mNil))) mNil)))
def F_Lines_is_done (C : Addr) : List D → RF := mDef 1 [true] (m_Lines_is_done C)
def m_Lines_peek (C : Addr) : MS := mSeq (mIfS (mOr (mTru (mMeth C "is_done" [true] (F_Lines_is_done C) (mVar 0) mNil)) (mNot (mTru (mOp gIx (mCons (mOp gIx (mCons (mFld 0 C "rows") (mCons (mFld 0 C "at") mNil))) (mCons (mC (.int 1)) mNil)))))) (mRet (mC .non)) (mNop)) (mSeq (mSet 2 (mFrz (mStr1 gSplit (mOp gIx (mCons (mOp gIx (mCons (mFld 0 C "rows") (mCons (mFld 0 C "at") mNil))) (mCons (mC (.int 0)) mNil))) (mC (.str [32]))))) (mSeq (mSet 3 (mCall [false] (F_numbers_of C) (mCons (mFrz (mOp gSl (mCons (mVar 2) (mCons (mInt (mC (.int 1))) (mCons (mC .non) mNil))))) (mNil)))) (mSeq (mIfS (mOr (mTest (mOp gDnin (mCons (mOp gIx (mCons (mVar 2) (mCons (mC (.int 0)) mNil))) (mCons (mVar 1) mNil)))) (mTest (mOp gIsN (mCons (mVar 3) (mCons (mC .non) mNil))))) (mRet (mC .non)) (mNop)) (mSeq (mSet 4 (mOp gDix (mCons (mVar 1) (mCons (mOp gIx (mCons (mVar 2) (mCons (mC (.int 0)) mNil))) mNil)))) (mRet (mIf (mTest (mOp gIn (mCons (mVar 4) (mCons (mTup (mCons (mOp gNeg (mCons (mC (.int 1)) mNil)) (mCons (mOp gLen (mCons (mVar 3) (mNil))) (mNil)))) mNil)))) (mTup (mCons (mOp gIx (mCons (mVar 2) (mCons (mC (.int 0)) mNil))) (mCons (mVar 3) (mNil)))) (mC .non)))))))
def F_Lines_peek (C : Addr) : List D → RF := mDef 5 [true, false] (m_Lines_peek C)
def m_Lines_take (C : Addr) : MS := mSeq (mSet 2 (mMeth C "peek" [true, false] (F_Lines_peek C) (mVar 0) (mCons (mVar 1) (mNil)))) (mSeq (mIfS (mTest (mOp gIsN (mCons (mVar 2) (mCons (mC .non) mNil)))) (mBad) (mNop)) (mSeq (mAugF 0 C "at" (fun a b => a + b) (mC (.int 1))) (mRet (mVar 2))))
def F_Lines_take (C : Addr) : List D → RF := mDef 3 [true, false] (m_Lines_take C)
def m_Lines_finish (C : Addr) : MS := mIfS (mNot (mTru (mMeth C "is_done" [true] (F_Lines_is_done C) (mVar 0) mNil))) (mBad) (mNop)
def F_Lines_finish (C : Addr) : List D → RF := mDef 1 [true] (m_Lines_finish C)
def m_taken_rows (C : Addr) : MS := mSeq (mSet 2 (mLst (mNil))) (mSeq (mWhile (mTest (mOp gNotN (mCons (mMeth C "peek" [true, false] (F_Lines_peek C) (mVar 0) (mCons (mFrz (mDic (mCons (mVar 1) (mCons (mOp gNeg (mCons (mC (.int 1)) mNil)) (mNil))))) (mNil))) (mCons (mC .non) mNil)))) (mExpr (mMut 2 gApp (mCons (mOp gIx (mCons (mMeth C "take" [true, false] (F_Lines_take C) (mVar 0) (mCons (mFrz (mDic (mCons (mVar 1) (mCons (mOp gNeg (mCons (mC (.int 1)) mNil)) (mNil))))) (mNil))) (mCons (mC (.int 1)) mNil))) (mNil))))) (mRet (mOp gTuple (mCons (mVar 2) (mNil)))))
def F_taken_rows (C : Addr) : List D → RF := mDef 3 [true, false] (m_taken_rows C)
def m_written_locks (C : Addr) : MS := mRet (mStr1 gJoin (mC (.str [])) (mLC [1] (mIt (mVar 0)) (gN 1) (mYes) (mOp gAdd (mCons (mC (.str [108, 111, 99, 107, 10])) (mCons (mStr1 gJoin (mC (.str [])) (mLC [2] (mIt (mVar 1)) (gN 2) (mYes) (mCall [false, false] (F_line C) (mCons (mC (.str [99, 104, 97, 109, 98, 101, 114])) (mCons (mVar 2) (mNil)))))) mNil)))))
def F_written_locks (C : Addr) : List D → RF := mDef 3 [false] (m_written_locks C)
def m_locks_of (C : Addr) : MS := mSeq (mSet 1 (mLst (mNil))) (mSeq (mWhile (mTest (mOp gNotN (mCons (mMeth C "peek" [true, false] (F_Lines_peek C) (mVar 0) (mCons (mFrz (mDic (mCons (mC (.str [108, 111, 99, 107])) (mCons (mC (.int 0)) (mNil))))) (mNil))) (mCons (mC .non) mNil)))) (mSeq (mExpr (mMeth C "take" [true, false] (F_Lines_take C) (mVar 0) (mCons (mFrz (mDic (mCons (mC (.str [108, 111, 99, 107])) (mCons (mC (.int 0)) (mNil))))) (mNil)))) (mExpr (mMut 1 gApp (mCons (mCall [true, false] (F_taken_rows C) (mCons (mVar 0) (mCons (mC (.str [99, 104, 97, 109, 98, 101, 114])) (mNil)))) (mNil)))))) (mRet (mOp gTuple (mCons (mVar 1) (mNil)))))
def F_locks_of (C : Addr) : List D → RF := mDef 2 [true] (m_locks_of C)
def m_write_house (C : Addr) : MS := mSeq (mAsg (gT 5 (gsCons (gN 1) (gsCons (gN 2) (gsCons (gN 3) (gsCons (gN 4) (gsCons (gN 5) (gsNil))))))) (mVar 0)) (mSeq (mSet 6 (mOp gAdd (mCons (mCall [false, false] (F_line C) (mCons (mC (.str [108, 105, 110, 101])) (mCons (mVar 1) (mNil)))) (mCons (mStr1 gJoin (mC (.str [])) (mLC [8] (mIt (mVar 2)) (gN 8) (mYes) (mCall [false, false] (F_line C) (mCons (mC (.str [107, 101, 121])) (mCons (mVar 8) (mNil)))))) mNil)))) (mSeq (mAug 6 gAug (mStr1 gJoin (mC (.str [])) (mLC [7] (mIt (mVar 3)) (gN 7) (mYes) (mOp gAdd (mCons (mC (.str [112, 105, 110, 110, 105, 110, 103, 10])) (mCons (mCall [false] (F_written_locks C) (mCons (mVar 7) (mNil))) mNil)))))) (mRet (mOp gAdd (mCons (mOp gAdd (mCons (mVar 6) (mCons (mCall [false, false] (F_line C) (mCons (mC (.str [112, 108, 97, 99, 101, 115])) (mCons (mVar 4) (mNil)))) mNil))) (mCons (mCall [false, false] (F_line C) (mCons (mC (.str [116, 114, 105, 101, 115])) (mCons (mTup (mCons (mVar 5) (mNil))) (mNil)))) mNil))))))
def F_write_house (C : Addr) : List D → RF := mDef 9 [false] (m_write_house C)
def m_read_house (C : Addr) : MS := mSeq (mSet 1 (mMake C (F_Lines_init C) (mCons (mVar 0) (mNil)))) (mSeq (mSet 2 (mOp gIx (mCons (mMeth C "take" [true, false] (F_Lines_take C) (mVar 1) (mCons (mFrz (mDic (mCons (mC (.str [108, 105, 110, 101])) (mCons (mC (.int 3)) (mNil))))) (mNil))) (mCons (mC (.int 1)) mNil)))) (mSeq (mSet 3 (mCall [true, false] (F_taken_rows C) (mCons (mVar 1) (mCons (mC (.str [107, 101, 121])) (mNil))))) (mSeq (mSet 4 (mLst (mNil))) (mSeq (mWhile (mTest (mOp gNotN (mCons (mMeth C "peek" [true, false] (F_Lines_peek C) (mVar 1) (mCons (mFrz (mDic (mCons (mC (.str [112, 105, 110, 110, 105, 110, 103])) (mCons (mC (.int 0)) (mNil))))) (mNil))) (mCons (mC .non) mNil)))) (mSeq (mExpr (mMeth C "take" [true, false] (F_Lines_take C) (mVar 1) (mCons (mFrz (mDic (mCons (mC (.str [112, 105, 110, 110, 105, 110, 103])) (mCons (mC (.int 0)) (mNil))))) (mNil)))) (mExpr (mMut 4 gApp (mCons (mCall [true] (F_locks_of C) (mCons (mVar 1) (mNil))) (mNil)))))) (mSeq (mSet 5 (mOp gIx (mCons (mMeth C "take" [true, false] (F_Lines_take C) (mVar 1) (mCons (mFrz (mDic (mCons (mC (.str [112, 108, 97, 99, 101, 115])) (mCons (mOp gNeg (mCons (mC (.int 1)) mNil)) (mNil))))) (mNil))) (mCons (mC (.int 1)) mNil)))) (mSeq (mSet 6 (mOp gIx (mCons (mOp gIx (mCons (mMeth C "take" [true, false] (F_Lines_take C) (mVar 1) (mCons (mFrz (mDic (mCons (mC (.str [116, 114, 105, 101, 115])) (mCons (mC (.int 1)) (mNil))))) (mNil))) (mCons (mC (.int 1)) mNil))) (mCons (mC (.int 0)) mNil)))) (mSeq (mExpr (mMeth C "finish" [true] (F_Lines_finish C) (mVar 1) mNil)) (mRet (mTup (mCons (mVar 2) (mCons (mVar 3) (mCons (mOp gTuple (mCons (mVar 4) (mNil))) (mCons (mVar 5) (mCons (mVar 6) (mNil)))))))))))))))
def F_read_house (C : Addr) : List D → RF := mDef 7 [false] (m_read_house C)
def m_write_stand (C : Addr) : MS := mSeq (mSet 1 (mStr1 gJoin (mC (.str [])) (mLC [2] (mIt (mOp gIx (mCons (mVar 0) (mCons (mC (.int 0)) mNil)))) (gN 2) (mYes) (mCall [false, false] (F_line C) (mCons (mC (.str [107, 101, 121])) (mCons (mVar 2) (mNil))))))) (mRet (mOp gAdd (mCons (mOp gAdd (mCons (mVar 1) (mCons (mCall [false, false] (F_line C) (mCons (mC (.str [112, 105, 110, 110, 105, 110, 103, 115])) (mCons (mOp gIx (mCons (mVar 0) (mCons (mC (.int 1)) mNil))) (mNil)))) mNil))) (mCons (mCall [false, false] (F_line C) (mCons (mC (.str [116, 114, 105, 101, 115])) (mCons (mTup (mCons (mOp gIx (mCons (mVar 0) (mCons (mC (.int 2)) mNil))) (mNil))) (mNil)))) mNil))))
def F_write_stand (C : Addr) : List D → RF := mDef 3 [false] (m_write_stand C)
def m_stand_of (C : Addr) : MS := mSeq (mSet 1 (mCall [true, false] (F_taken_rows C) (mCons (mVar 0) (mCons (mC (.str [107, 101, 121])) (mNil))))) (mSeq (mSet 2 (mOp gIx (mCons (mMeth C "take" [true, false] (F_Lines_take C) (mVar 0) (mCons (mFrz (mDic (mCons (mC (.str [112, 105, 110, 110, 105, 110, 103, 115])) (mCons (mOp gNeg (mCons (mC (.int 1)) mNil)) (mNil))))) (mNil))) (mCons (mC (.int 1)) mNil)))) (mRet (mTup (mCons (mVar 1) (mCons (mVar 2) (mCons (mOp gIx (mCons (mOp gIx (mCons (mMeth C "take" [true, false] (F_Lines_take C) (mVar 0) (mCons (mFrz (mDic (mCons (mC (.str [116, 114, 105, 101, 115])) (mCons (mC (.int 1)) (mNil))))) (mNil))) (mCons (mC (.int 1)) mNil))) (mCons (mC (.int 0)) mNil))) (mNil)))))))
def F_stand_of (C : Addr) : List D → RF := mDef 3 [true] (m_stand_of C)
def m_read_stand (C : Addr) : MS := mSeq (mSet 1 (mMake C (F_Lines_init C) (mCons (mVar 0) (mNil)))) (mSeq (mSet 2 (mCall [true] (F_stand_of C) (mCons (mVar 1) (mNil)))) (mSeq (mExpr (mMeth C "finish" [true] (F_Lines_finish C) (mVar 1) mNil)) (mRet (mVar 2))))
def F_read_stand (C : Addr) : List D → RF := mDef 3 [false] (m_read_stand C)
def m__law_draws (C : Addr) : MS := mSeq (mSet 2 (mLC [8] (mIt (mVar 0)) (gN 8) (mYes) (mOp gInt (mCons (mVar 8) (mNil))))) (mSeq (mIfS (mTest (mOp gEq (mCons (mOp gLen (mCons (mVar 2) (mNil))) (mCons (mC (.int 0)) mNil)))) (mExpr (mMut 2 gApp (mCons (mC (.int 0)) (mNil)))) (mNop)) (mSeq (mSet 3 (mOp gList (mCons (mVar 2) (mNil)))) (mSeq (mSet 4 (mLst (mNil))) (mSeq (mFor (mRng1 (mVar 1)) (gN 5) (mSeq (mSet 6 (mOp gMod (mCons (mVar 5) (mCons (mOp gLen (mCons (mVar 2) (mNil))) mNil)))) (mIfS (mTest (mOp gGe (mCons (mOp gIx (mCons (mVar 2) (mCons (mVar 6) mNil))) (mCons (mOp gPow (mCons (mC (.int 10)) (mCons (mC (.int 18)) mNil))) mNil)))) (mSeq (mExpr (mMut 4 gApp (mCons (mOp gMod (mCons (mOp gInt (mCons (mOp gIx (mCons (mVar 3) (mCons (mVar 6) mNil))) (mNil))) (mCons (mC (.int 1000)) mNil))) (mNil)))) (mSetIx 3 (mVar 6) (mOp gFdiv (mCons (mOp gIx (mCons (mVar 3) (mCons (mVar 6) mNil))) (mCons (mC (.int 1000)) mNil))))) (mSeq (mSet 7 (mOp gMod (mCons (mOp gInt (mCons (mOp gAdd (mCons (mOp gAdd (mCons (mOp gMul (mCons (mOp gIx (mCons (mVar 2) (mCons (mVar 6) mNil))) (mCons (mC (.int 48271)) mNil))) (mCons (mOp gMul (mCons (mVar 5) (mCons (mC (.int 69621)) mNil))) mNil))) (mCons (mC (.int 11)) mNil))) (mNil))) (mCons (mC (.int 2147483647)) mNil)))) (mExpr (mMut 4 gApp (mCons (mOp gMod (mCons (mOp gInt (mCons (mOp gAdd (mCons (mOp gAdd (mCons (mOp gMul (mCons (mVar 7) (mCons (mVar 7) mNil))) (mCons (mOp gMul (mCons (mC (.int 3)) (mCons (mVar 7) mNil))) mNil))) (mCons (mVar 5) mNil))) (mNil))) (mCons (mC (.int 1000003)) mNil))) (mNil)))))))) (mSeq (mExpr (mMut 4 gRev mNil)) (mRet (mMov (mVar 4))))))))
def F__law_draws (C : Addr) : List D → RF := mDef 9 [false, false] (m__law_draws C)
def m__law_take (C : Addr) : MS := mSeq (mIfS (mTest (mOp gEq (mCons (mOp gLen (mCons (mVar 0) (mNil))) (mCons (mC (.int 0)) mNil)))) (mRet (mC (.int 0))) (mNop)) (mRet (mOp gMod (mCons (mOp gInt (mCons (mMut 0 gPop mNil) (mNil))) (mCons (mVar 1) mNil))))
def F__law_take (C : Addr) : List D → RF := mDef 2 [true, false] (m__law_take C)
def m__law_cell (C : Addr) : MS := mSeq (mIfS (mTest (mOp gEq (mCons (mOp gLen (mCons (mVar 0) (mNil))) (mCons (mC (.int 0)) mNil)))) (mRet (mC (.int 0))) (mNop)) (mRet (mOp gInt (mCons (mOp gIx (mCons (mVar 0) (mCons (mOp gMod (mCons (mOp gInt (mCons (mVar 1) (mNil))) (mCons (mOp gLen (mCons (mVar 0) (mNil))) mNil))) mNil))) (mNil))))
def F__law_cell (C : Addr) : List D → RF := mDef 2 [false, false] (m__law_cell C)
def m__law_same (C : Addr) (rec : List D → RF) : MS := mSeq (mIfS (mTest (mOp gIsN (mCons (mVar 1) (mCons (mC .non) mNil)))) (mRet (mOp gIsN (mCons (mVar 0) (mCons (mC .non) mNil)))) (mNop)) (mSeq (mIfS (mTru (mOp gIsi (mCons (mVar 1) (mCons (mC (.ty "bool")) (mNil))))) (mRet (mAndV (mOp gIsi (mCons (mVar 0) (mCons (mC (.ty "bool")) (mNil)))) (mOp gEq (mCons (mVar 0) (mCons (mVar 1) mNil))))) (mNop)) (mSeq (mIfS (mTru (mOp gIsi (mCons (mVar 1) (mCons (mC (.ty "int")) (mNil))))) (mRet (mAndV (mOp gIsi (mCons (mVar 0) (mCons (mC (.ty "int")) (mNil)))) (mAndV (mNotV (mOp gIsi (mCons (mVar 0) (mCons (mC (.ty "bool")) (mNil))))) (mOp gEq (mCons (mVar 0) (mCons (mVar 1) mNil)))))) (mNop)) (mSeq (mIfS (mTru (mOp gIsi (mCons (mVar 1) (mCons (mC (.ty "str")) (mNil))))) (mRet (mAndV (mOp gIsi (mCons (mVar 0) (mCons (mC (.ty "str")) (mNil)))) (mOp gEq (mCons (mVar 0) (mCons (mVar 1) mNil))))) (mNop)) (mSeq (mIfS (mOr (mNot (mTru (mOp gIsi (mCons (mVar 0) (mCons (mC (.ty "tuple")) (mNil)))))) (mTest (mOp gNe (mCons (mOp gLen (mCons (mVar 0) (mNil))) (mCons (mOp gLen (mCons (mVar 1) (mNil))) mNil))))) (mRet (mC (.bl false))) (mNop)) (mSeq (mFor (mRng1 (mOp gLen (mCons (mVar 1) (mNil)))) (gN 2) (mIfS (mNot (mTru (mCall [false, false] rec (mCons (mOp gIx (mCons (mVar 0) (mCons (mVar 2) mNil))) (mCons (mOp gIx (mCons (mVar 1) (mCons (mVar 2) mNil))) (mNil)))))) (mRet (mC (.bl false))) (mNop))) (mRet (mC (.bl true))))))))
def R__law_same (C : Addr) : Nat → List D → RF
  | 0 => fun _ => .bad
  | n + 1 => mDef 3 [false, false] (m__law_same C (R__law_same C n))
def F__law_same (C : Addr) : List D → RF := R__law_same C 7
def m__law_any_number (C : Addr) : MS := mSeq (mSet 2 (mOp gSub (mCons (mCall [true, false] (F__law_take C) (mCons (mVar 1) (mCons (mC (.int 30)) (mNil)))) (mCons (mC (.int 4)) mNil)))) (mSeq (mIfS (mTest (mOp gEq (mCons (mCall [true, false] (F__law_take C) (mCons (mVar 1) (mCons (mC (.int 9)) (mNil)))) (mCons (mC (.int 2)) mNil)))) (mSeq (mSet 3 (mCall [false, false] (F__law_cell C) (mCons (mVar 0) (mCons (mVar 2) (mNil))))) (mSeq (mSet 2 (mOp gMul (mCons (mOp gIx (mCons (mLst (mCons (mC (.int 1)) (mCons (mOp gNeg (mCons (mC (.int 1)) mNil)) (mNil)))) (mCons (mOp gInt (mCons (mOp gLt (mCons (mVar 3) (mCons (mC (.int 0)) mNil))) (mNil))) mNil))) (mCons (mOp gInt (mCons (mOp gMod (mCons (mOp gInt (mCons (mOp gAbs (mCons (mVar 3) (mNil))) (mNil))) (mCons (mOp gPow (mCons (mC (.int 10)) (mCons (mC (.int 60)) mNil))) mNil))) (mNil))) mNil)))) (mIfS (mTest (mOp gEq (mCons (mCall [true, false] (F__law_take C) (mCons (mVar 1) (mCons (mC (.int 3)) (mNil)))) (mCons (mC (.int 0)) mNil)))) (mSet 2 (mOp gMul (mCons (mOp gIx (mCons (mLst (mCons (mC (.int 1)) (mCons (mOp gNeg (mCons (mC (.int 1)) mNil)) (mNil)))) (mCons (mCall [true, false] (F__law_take C) (mCons (mVar 1) (mCons (mC (.int 2)) (mNil)))) mNil))) (mCons (mOp gAdd (mCons (mOp gPow (mCons (mC (.int 10)) (mCons (mC (.int 59)) mNil))) (mCons (mOp gMod (mCons (mOp gInt (mCons (mOp gAbs (mCons (mVar 3) (mNil))) (mNil))) (mCons (mC (.int 1000)) mNil))) mNil))) mNil)))) (mNop)))) (mNop)) (mRet (mVar 2)))
def F__law_any_number (C : Addr) : List D → RF := mDef 4 [false, true] (m__law_any_number C)
def m__law_some_numbers (C : Addr) : MS := mRet (mOp gTuple (mCons (mLC [3] (mRng1 (mVar 2)) (gN 3) (mYes) (mCall [false, true] (F__law_any_number C) (mCons (mVar 0) (mCons (mVar 1) (mNil))))) (mNil)))
def F__law_some_numbers (C : Addr) : List D → RF := mDef 4 [false, true, false] (m__law_some_numbers C)
def m__law_tuples (C : Addr) : MS := mRet (mOp gTuple (mCons (mLC [3] (mRng1 (mVar 2)) (gN 3) (mYes) (mCall [false, true, false] (F__law_some_numbers C) (mCons (mVar 0) (mCons (mVar 1) (mCons (mCall [true, false] (F__law_take C) (mCons (mVar 1) (mCons (mC (.int 5)) (mNil)))) (mNil)))))) (mNil)))
def F__law_tuples (C : Addr) : List D → RF := mDef 4 [false, true, false] (m__law_tuples C)
def m__law_any_locks (C : Addr) : MS := mRet (mOp gTuple (mCons (mLC [3] (mRng1 (mVar 2)) (gN 3) (mYes) (mCall [false, true, false] (F__law_tuples C) (mCons (mVar 0) (mCons (mVar 1) (mCons (mCall [true, false] (F__law_take C) (mCons (mVar 1) (mCons (mC (.int 4)) (mNil)))) (mNil)))))) (mNil)))
def F__law_any_locks (C : Addr) : List D → RF := mDef 4 [false, true, false] (m__law_any_locks C)
def m__law_any_stands (C : Addr) : MS := mSeq (mSet 3 (mLst (mNil))) (mSeq (mFor (mRng1 (mVar 2)) (gN 4) (mSeq (mSet 5 (mCall [false, true, false] (F__law_tuples C) (mCons (mVar 0) (mCons (mVar 1) (mCons (mCall [true, false] (F__law_take C) (mCons (mVar 1) (mCons (mC (.int 4)) (mNil)))) (mNil)))))) (mSeq (mSet 6 (mCall [false, true, false] (F__law_some_numbers C) (mCons (mVar 0) (mCons (mVar 1) (mCons (mCall [true, false] (F__law_take C) (mCons (mVar 1) (mCons (mC (.int 4)) (mNil)))) (mNil)))))) (mExpr (mMut 3 gApp (mCons (mTup (mCons (mVar 5) (mCons (mVar 6) (mCons (mCall [false, true] (F__law_any_number C) (mCons (mVar 0) (mCons (mVar 1) (mNil)))) (mNil))))) (mNil))))))) (mRet (mOp gTuple (mCons (mVar 3) (mNil)))))
def F__law_any_stands (C : Addr) : List D → RF := mDef 7 [false, true, false] (m__law_any_stands C)
def m__law_text_line (C : Addr) : MS := mRet (mStr1 gJoin (mC (.str [32])) (mOp gAdd (mCons (mLst (mCons (mVar 0) (mNil))) (mCons (mLC [2] (mIt (mVar 1)) (gN 2) (mYes) (mOp gStr (mCons (mVar 2) (mNil)))) mNil))))
def F__law_text_line (C : Addr) : List D → RF := mDef 3 [false, false] (m__law_text_line C)
def m__law_lock_lines (C : Addr) : MS := mSeq (mSet 1 (mFrz (mLst (mNil)))) (mSeq (mFor (mIt (mVar 0)) (gN 2) (mSet 1 (mFrz (mOp gAdd (mCons (mOp gAdd (mCons (mVar 1) (mCons (mLst (mCons (mC (.str [108, 111, 99, 107])) (mNil))) mNil))) (mCons (mLC [3] (mIt (mVar 2)) (gN 3) (mYes) (mCall [false, false] (F__law_text_line C) (mCons (mC (.str [99, 104, 97, 109, 98, 101, 114])) (mCons (mVar 3) (mNil))))) mNil)))))) (mRet (mVar 1)))
def F__law_lock_lines (C : Addr) : List D → RF := mDef 4 [false] (m__law_lock_lines C)
def m__law_house_lines (C : Addr) : MS := mSeq (mSet 1 (mFrz (mOp gAdd (mCons (mLst (mCons (mCall [false, false] (F__law_text_line C) (mCons (mC (.str [108, 105, 110, 101])) (mCons (mOp gIx (mCons (mVar 0) (mCons (mC (.int 0)) mNil))) (mNil)))) (mNil))) (mCons (mLC [3] (mIt (mOp gIx (mCons (mVar 0) (mCons (mC (.int 1)) mNil)))) (gN 3) (mYes) (mCall [false, false] (F__law_text_line C) (mCons (mC (.str [107, 101, 121])) (mCons (mVar 3) (mNil))))) mNil))))) (mSeq (mFor (mIt (mOp gIx (mCons (mVar 0) (mCons (mC (.int 2)) mNil)))) (gN 2) (mSet 1 (mFrz (mOp gAdd (mCons (mOp gAdd (mCons (mVar 1) (mCons (mLst (mCons (mC (.str [112, 105, 110, 110, 105, 110, 103])) (mNil))) mNil))) (mCons (mCall [false] (F__law_lock_lines C) (mCons (mVar 2) (mNil))) mNil)))))) (mRet (mOp gAdd (mCons (mVar 1) (mCons (mLst (mCons (mCall [false, false] (F__law_text_line C) (mCons (mC (.str [112, 108, 97, 99, 101, 115])) (mCons (mOp gIx (mCons (mVar 0) (mCons (mC (.int 3)) mNil))) (mNil)))) (mCons (mCall [false, false] (F__law_text_line C) (mCons (mC (.str [116, 114, 105, 101, 115])) (mCons (mTup (mCons (mOp gIx (mCons (mVar 0) (mCons (mC (.int 4)) mNil))) (mNil))) (mNil)))) (mNil)))) mNil)))))
def F__law_house_lines (C : Addr) : List D → RF := mDef 4 [false] (m__law_house_lines C)
def m__law_stand_lines (C : Addr) : MS := mSeq (mSet 1 (mLC [2] (mIt (mOp gIx (mCons (mVar 0) (mCons (mC (.int 0)) mNil)))) (gN 2) (mYes) (mCall [false, false] (F__law_text_line C) (mCons (mC (.str [107, 101, 121])) (mCons (mVar 2) (mNil)))))) (mRet (mOp gAdd (mCons (mVar 1) (mCons (mLst (mCons (mCall [false, false] (F__law_text_line C) (mCons (mC (.str [112, 105, 110, 110, 105, 110, 103, 115])) (mCons (mOp gIx (mCons (mVar 0) (mCons (mC (.int 1)) mNil))) (mNil)))) (mCons (mCall [false, false] (F__law_text_line C) (mCons (mC (.str [116, 114, 105, 101, 115])) (mCons (mTup (mCons (mOp gIx (mCons (mVar 0) (mCons (mC (.int 2)) mNil))) (mNil))) (mNil)))) (mNil)))) mNil))))
def F__law_stand_lines (C : Addr) : List D → RF := mDef 3 [false] (m__law_stand_lines C)
def m__law_joined (C : Addr) : MS := mRet (mStr1 gJoin (mC (.str [])) (mLC [1] (mIt (mVar 0)) (gN 1) (mYes) (mOp gAdd (mCons (mVar 1) (mCons (mC (.str [10])) mNil)))))
def F__law_joined (C : Addr) : List D → RF := mDef 2 [false] (m__law_joined C)
def m__law_two_value (C : Addr) : MS := mSeq (mIfS (mTest (mOp gEq (mCons (mVar 2) (mCons (mC (.int 1)) mNil)))) (mRet (mOp gIx (mCons (mCall [false, true, false] (F__law_any_stands C) (mCons (mVar 0) (mCons (mVar 1) (mCons (mC (.int 1)) (mNil))))) (mCons (mC (.int 0)) mNil)))) (mNop)) (mSeq (mSet 3 (mCall [false, true, false] (F__law_tuples C) (mCons (mVar 0) (mCons (mVar 1) (mCons (mCall [true, false] (F__law_take C) (mCons (mVar 1) (mCons (mC (.int 4)) (mNil)))) (mNil)))))) (mSeq (mSet 4 (mOp gTuple (mCons (mLC [6] (mRng1 (mCall [true, false] (F__law_take C) (mCons (mVar 1) (mCons (mC (.int 4)) (mNil))))) (gN 6) (mYes) (mCall [false, true, false] (F__law_any_locks C) (mCons (mVar 0) (mCons (mVar 1) (mCons (mCall [true, false] (F__law_take C) (mCons (mVar 1) (mCons (mC (.int 4)) (mNil)))) (mNil)))))) (mNil)))) (mSeq (mSet 5 (mCall [false, true, false] (F__law_some_numbers C) (mCons (mVar 0) (mCons (mVar 1) (mCons (mCall [true, false] (F__law_take C) (mCons (mVar 1) (mCons (mC (.int 5)) (mNil)))) (mNil)))))) (mRet (mTup (mCons (mCall [false, true, false] (F__law_some_numbers C) (mCons (mVar 0) (mCons (mVar 1) (mCons (mC (.int 3)) (mNil))))) (mCons (mVar 3) (mCons (mVar 4) (mCons (mVar 5) (mCons (mCall [false, true] (F__law_any_number C) (mCons (mVar 0) (mCons (mVar 1) (mNil)))) (mNil)))))))))))
def F__law_two_value (C : Addr) : List D → RF := mDef 7 [false, true, false] (m__law_two_value C)
def m__law_two_lines (C : Addr) : MS := mSeq (mIfS (mTest (mOp gEq (mCons (mVar 0) (mCons (mC (.int 0)) mNil)))) (mRet (mCall [false] (F__law_house_lines C) (mCons (mVar 1) (mNil)))) (mNop)) (mRet (mCall [false] (F__law_stand_lines C) (mCons (mVar 1) (mNil))))
def F__law_two_lines (C : Addr) : List D → RF := mDef 2 [false, false] (m__law_two_lines C)
def m__law_written (C : Addr) : MS := mSeq (mIfS (mTest (mOp gEq (mCons (mVar 0) (mCons (mC (.int 0)) mNil)))) (mRet (mCall [false] (F_write_house C) (mCons (mVar 1) (mNil)))) (mNop)) (mRet (mCall [false] (F_write_stand C) (mCons (mVar 1) (mNil))))
def F__law_written (C : Addr) : List D → RF := mDef 2 [false, false] (m__law_written C)
def m__law_told (C : Addr) : MS := mSeq (mIfS (mTest (mOp gEq (mCons (mVar 0) (mCons (mC (.int 0)) mNil)))) (mRet (mCall [false] (F_read_house C) (mCons (mVar 1) (mNil)))) (mNop)) (mRet (mCall [false] (F_read_stand C) (mCons (mVar 1) (mNil))))
def F__law_told (C : Addr) : List D → RF := mDef 2 [false, false] (m__law_told C)
def m__law_large (C : Addr) : MS := mSeq (mIfS (mTest (mOp gEq (mCons (mVar 1) (mCons (mC (.int 1)) mNil)))) (mRet (mTup (mCons (mOp gMul (mCons (mOp gIx (mCons (mVar 0) (mCons (mC (.int 0)) mNil))) (mCons (mVar 2) mNil))) (mCons (mOp gMul (mCons (mOp gIx (mCons (mVar 0) (mCons (mC (.int 1)) mNil))) (mCons (mVar 2) mNil))) (mCons (mOp gIx (mCons (mVar 0) (mCons (mC (.int 2)) mNil))) (mNil)))))) (mNop)) (mRet (mTup (mCons (mOp gIx (mCons (mVar 0) (mCons (mC (.int 0)) mNil))) (mCons (mOp gMul (mCons (mOp gIx (mCons (mVar 0) (mCons (mC (.int 1)) mNil))) (mCons (mVar 2) mNil))) (mCons (mOp gMul (mCons (mOp gIx (mCons (mVar 0) (mCons (mC (.int 2)) mNil))) (mCons (mOp gFdiv (mCons (mVar 2) (mCons (mC (.int 5)) mNil))) mNil))) (mCons (mOp gMul (mCons (mOp gIx (mCons (mVar 0) (mCons (mC (.int 3)) mNil))) (mCons (mVar 2) mNil))) (mCons (mOp gIx (mCons (mVar 0) (mCons (mC (.int 4)) mNil))) (mNil))))))))
def F__law_large (C : Addr) : List D → RF := mDef 3 [false, false, false] (m__law_large C)
def m__law_round (C : Addr) : MS := mSeq (mSet 3 (mCall [false] (F__law_joined C) (mCons (mVar 2) (mNil)))) (mSeq (mIfS (mTest (mOp gGt (mCons (mOp gLen (mCons (mVar 3) (mNil))) (mCons (mC (.int 20000)) mNil)))) (mRet (mC (.bl true))) (mNop)) (mSeq (mIfS (mNot (mTru (mCall [false, false] (F__law_same C) (mCons (mCall [false, false] (F__law_written C) (mCons (mVar 0) (mCons (mVar 1) (mNil)))) (mCons (mVar 3) (mNil)))))) (mRet (mC (.bl false))) (mNop)) (mRet (mCall [false, false] (F__law_same C) (mCons (mCall [false, false] (F__law_told C) (mCons (mVar 0) (mCons (mVar 3) (mNil)))) (mCons (mVar 1) (mNil)))))))
def F__law_round (C : Addr) : List D → RF := mDef 4 [false, false, false] (m__law_round C)
def m_law (C : Addr) : MS := mSeq (mSet 1 (mCall [false, false] (F__law_draws C) (mCons (mVar 0) (mCons (mC (.int 900)) (mNil))))) (mSeq (mSet 2 (mOp gSl (mCons (mVar 1) (mCons (mC .non) (mCons (mInt (mC (.int 40))) mNil))))) (mSeq (mSet 1 (mOp gSl (mCons (mVar 1) (mCons (mInt (mC (.int 40))) (mCons (mC .non) mNil))))) (mSeq (mSet 3 (mLst (mCons (mTup (mCons (mC (.int 1)) (mCons (mTup (mCons (mTup (mNil)) (mCons (mTup (mNil)) (mCons (mC (.int 0)) (mNil))))) (mCons (mFrz (mLst (mCons (mC (.str [112, 105, 110, 110, 105, 110, 103, 115])) (mCons (mC (.str [116, 114, 105, 101, 115, 32, 48])) (mNil))))) (mNil))))) (mNil)))) (mSeq (mExpr (mMut 3 gApp (mCons (mTup (mCons (mC (.int 1)) (mCons (mTup (mCons (mTup (mCons (mTup (mCons (mC (.int 0)) (mCons (mC (.int 2)) (mNil)))) (mCons (mTup (mNil)) (mNil)))) (mCons (mTup (mCons (mC (.int 1)) (mCons (mC (.int 0)) (mNil)))) (mCons (mOp gNeg (mCons (mC (.int 7)) mNil)) (mNil))))) (mCons (mFrz (mLst (mCons (mC (.str [107, 101, 121, 32, 48, 32, 50])) (mCons (mC (.str [107, 101, 121])) (mCons (mC (.str [112, 105, 110, 110, 105, 110, 103, 115, 32, 49, 32, 48])) (mCons (mC (.str [116, 114, 105, 101, 115, 32, 45, 55])) (mNil))))))) (mNil))))) (mNil)))) (mSeq (mSet 4 (mTup (mCons (mTup (mCons (mC (.int 2)) (mCons (mC (.int 10)) (mCons (mC (.int 0)) (mNil))))) (mCons (mTup (mCons (mTup (mCons (mC (.int 9)) (mCons (mC (.int 0)) (mNil)))) (mNil))) (mCons (mTup (mCons (mTup (mCons (mTup (mCons (mTup (mCons (mC (.int 0)) (mCons (mC (.int 9)) (mNil)))) (mCons (mTup (mNil)) (mNil)))) (mCons (mTup (mNil)) (mNil)))) (mCons (mTup (mNil)) (mNil)))) (mCons (mTup (mCons (mC (.int 2)) (mCons (mC (.int 0)) (mNil)))) (mCons (mC (.int 4)) (mNil)))))))) (mSeq (mSet 5 (mFrz (mLst (mCons (mC (.str [108, 105, 110, 101, 32, 50, 32, 49, 48, 32, 48])) (mCons (mC (.str [107, 101, 121, 32, 57, 32, 48])) (mCons (mC (.str [112, 105, 110, 110, 105, 110, 103])) (mCons (mC (.str [108, 111, 99, 107])) (mCons (mC (.str [99, 104, 97, 109, 98, 101, 114, 32, 48, 32, 57])) (mCons (mC (.str [99, 104, 97, 109, 98, 101, 114])) (mCons (mC (.str [108, 111, 99, 107])) (mCons (mC (.str [112, 105, 110, 110, 105, 110, 103])) (mNil)))))))))))) (mSeq (mSet 5 (mFrz (mOp gAdd (mCons (mVar 5) (mCons (mLst (mCons (mC (.str [112, 108, 97, 99, 101, 115, 32, 50, 32, 48])) (mCons (mC (.str [116, 114, 105, 101, 115, 32, 52])) (mNil)))) mNil))))) (mSeq (mSet 3 (mOp gAdd (mCons (mVar 3) (mCons (mLst (mCons (mTup (mCons (mC (.int 0)) (mCons (mVar 4) (mCons (mVar 5) (mNil))))) (mCons (mTup (mCons (mC (.int 0)) (mCons (mTup (mCons (mTup (mCons (mC (.int 0)) (mCons (mC (.int 0)) (mCons (mC (.int 0)) (mNil))))) (mCons (mTup (mNil)) (mCons (mTup (mNil)) (mCons (mTup (mNil)) (mCons (mC (.int 0)) (mNil))))))) (mCons (mFrz (mLst (mCons (mC (.str [108, 105, 110, 101, 32, 48, 32, 48, 32, 48])) (mCons (mC (.str [112, 108, 97, 99, 101, 115])) (mCons (mC (.str [116, 114, 105, 101, 115, 32, 48])) (mNil)))))) (mNil))))) (mNil)))) mNil)))) (mSeq (mFor (mIt (mFrz (mVar 3))) (gN 6) (mIfS (mNot (mTru (mCall [false, false, false] (F__law_round C) (mCons (mOp gIx (mCons (mVar 6) (mCons (mC (.int 0)) mNil))) (mCons (mOp gIx (mCons (mVar 6) (mCons (mC (.int 1)) mNil))) (mCons (mOp gIx (mCons (mVar 6) (mCons (mC (.int 2)) mNil))) (mNil))))))) (mRet (mC (.bl false))) (mNop))) (mSeq (mFor (mRng1 (mC (.int 2))) (gN 7) (mSeq (mSet 8 (mCall [false, true, false] (F__law_two_value C) (mCons (mVar 0) (mCons (mVar 1) (mCons (mVar 7) (mNil)))))) (mSeq (mFor (mIt (mFrz (mLst (mCons (mVar 8) (mCons (mCall [false, true, false] (F__law_two_value C) (mCons (mVar 0) (mCons (mVar 1) (mCons (mVar 7) (mNil))))) (mCons (mVar 8) (mNil))))))) (gN 9) (mIfS (mNot (mTru (mCall [false, false, false] (F__law_round C) (mCons (mVar 7) (mCons (mVar 9) (mCons (mFrz (mCall [false, false] (F__law_two_lines C) (mCons (mVar 7) (mCons (mVar 9) (mNil))))) (mNil))))))) (mRet (mC (.bl false))) (mNop))) (mIfS (mTest (mOp gEq (mCons (mCall [true, false] (F__law_take C) (mCons (mVar 2) (mCons (mC (.int 6)) (mNil)))) (mCons (mC (.int 3)) mNil)))) (mSeq (mSet 10 (mCall [false, false, false] (F__law_large C) (mCons (mVar 8) (mCons (mVar 7) (mCons (mOp gAdd (mCons (mC (.int 10)) (mCons (mCall [true, false] (F__law_take C) (mCons (mVar 2) (mCons (mC (.int 40)) (mNil)))) mNil))) (mNil)))))) (mIfS (mNot (mTru (mCall [false, false, false] (F__law_round C) (mCons (mVar 7) (mCons (mVar 10) (mCons (mFrz (mCall [false, false] (F__law_two_lines C) (mCons (mVar 7) (mCons (mVar 10) (mNil))))) (mNil))))))) (mRet (mC (.bl false))) (mNop))) (mNop))))) (mRet (mC (.bl true)))))))))))))
def F_law (C : Addr) : List D → RF := mDef 11 [false] (m_law C)
end
end K84

set_option maxHeartbeats 1000000
namespace K84
open FM L2
open PySem (Str Addr)
variable {C : Addr}
def rowT (w : List Nat) (is : List Int) : List Nat := TL.joinL [32] (w :: is.map digs)
theorem joinL_len (S : List Nat) : ∀ ps : List (List Nat), (TL.joinL S ps).length ≤ (ps.map List.length).sum + ps.length * S.length
  | [] => by simp [TL.joinL]
  | [p] => by simp [TL.joinL]
  | p :: q :: r => by
    have ih := joinL_len S (q :: r)
    have e : TL.joinL S (p :: q :: r) = p ++ (S ++ TL.joinL S (q :: r)) := rfl
    rw [e]
    simp only [List.length_append, List.map_cons, List.sum_cons, List.length_cons] at ih ⊢
    have : (r.length + 1 + 1) * S.length = (r.length + 1) * S.length + S.length := by rw [Nat.succ_mul]
    omega
theorem sum_le {α : Type} (f : α → Nat) (k : Nat) : ∀ l : List α, (∀ a ∈ l, f a ≤ k) → (l.map f).sum ≤ l.length * k
  | [], _ => by simp
  | a :: l, h => by
    have h1 := h a List.mem_cons_self
    have h2 := sum_le f k l fun x hx => h x (List.mem_cons_of_mem _ hx)
    rw [List.map_cons, List.sum_cons, List.length_cons, Nat.succ_mul]
    omega
def sD : D → D
  | .int i => .str (digs i)
  | d => d
theorem digs_sum {is : List Int} (h : ∀ i ∈ is, Sm i) : ((is.map digs).map List.length).sum ≤ is.length * 61 := by
  rw [List.map_map]
  exact sum_le _ _ is fun i hi => digs_len (h i hi)
theorem strs_mapf {α : Type} (f : α → List Nat) (l : List α) : strs? (l.map (D.str ∘ f)) = some (l.map f) := by
  rw [← List.map_map, strs_map]
theorem bls_mapf {α : Type} (f : α → Bool) (l : List α) : bls? (l.map (D.bl ∘ f)) = some (l.map f) := by
  rw [← List.map_map, bls_map]
theorem all_true {α : Type} : ∀ l : List α, (l.all fun _ => true) = true
  | [] => rfl
  | _ :: l => by rw [List.all_cons, all_true l]; rfl
theorem strs_cons (a : List Nat) (l : List D) : strs? (.str a :: l) = (strs? l).map (a :: ·) := rfl
def RowOk (w : List Nat) (is : List Int) : Prop := (w.length ≤ 20 ∧ 10 ∉ w ∧ 32 ∉ w) ∧ is.length ≤ 300 ∧ ∀ i ∈ is, Sm i
theorem rowT_len {w : List Nat} {is : List Int} (h : RowOk w is) : (rowT w is).length ≤ 19000 := by
  obtain ⟨⟨h1, _, _⟩, h2, h3⟩ := h
  have a := joinL_len [32] (w :: is.map digs)
  have b := digs_sum h3
  unfold rowT
  simp only [List.map_cons, List.sum_cons, List.length_cons, List.length_map, List.length_singleton, List.length_nil] at a b ⊢
  omega
theorem rowT_short {w : List Nat} {is : List Int} (h : RowOk w is) (hs : is.length ≤ 10) : (rowT w is).length ≤ 700 := by
  obtain ⟨⟨h1, _, _⟩, h2, h3⟩ := h
  have a := joinL_len [32] (w :: is.map digs)
  have b := digs_sum h3
  unfold rowT
  simp only [List.map_cons, List.sum_cons, List.length_cons, List.length_map, List.length_singleton, List.length_nil] at a b ⊢
  omega
theorem str_join {w : List Nat} {is : List Int} (h : RowOk w is) : gJoin [.str [32], .lst (.str w :: is.map (D.str ∘ digs))] = some (.str (rowT w is)) := by
  obtain ⟨⟨h1, _, _⟩, h2, h3⟩ := h
  have b := digs_sum h3
  simp only [gJoin, strs_cons, strs_mapf, Option.map_some, Option.bind_some]
  rw [if_pos]
  · rfl
  · simp only [List.map_cons, List.sum_cons, List.length_cons, List.length_map, List.length_nil] at b ⊢
    omega
theorem lc_digs (n : Nat) {l : FM.Loc} (hl : l.set n none = l) (hn : n < l.length) {is : List Int} (hs : ∀ i ∈ is, Sm i) (hi : is.length ≤ 300) : loopC [n] (gN n) mYes (mOp gStr (mCons (mVar n) mNil)) (is.map .int) [] l = some (is.map (D.str ∘ digs), l) := by
  have h := lc_map (v := n) (l := l) (te := mOp gStr (mCons (mVar n) mNil)) (f := sD) hl (ds := is.map .int) (acc := []) (by
    intro d hd
    obtain ⟨i, hi, rfl⟩ := List.mem_map.mp hd
    simp [mOp, mCons, mVar, mNil, isImm, viewL, view, gStr, sm_log (hs i hi), sD, hn]) (by simp; omega)
  rw [h]
  simp [sD]
theorem S_text_line {w : List Nat} {is : List Int} (h : RowOk w is) : F__law_text_line C [.str w, .tup (is.map .int)] = .ok (.str (rowT w is)) [] := by
  have h0 := h.2.1
  have hl := lc_digs 2 (l := [some (.str w), some (.tup (is.map .int)), none]) rfl (by simp) h.2.2 h.2.1
  unfold F__law_text_line m__law_text_line
  simp [mDef, startD, mSeq, mSet, mRet, mRetN, mExpr, mIfS, mNop, mCons, mNil, mOp, mC, mVar, mFrz, mMov, mIf, mTest, mTru, mAnd, mOr, mNot, mAndV, mOrV, mNotV, mInt, viewL, view, isImm, mIt, itemsOf, mLC, mFor, mStr1, mTup, mLst, mCall, takeA, putA, mMeth, insAt, mMake, noBrw, mMut, lstAt, mChain, mFld, objAt, mSetF, mAugF, ioOf, mDic, pairD, mAsg, isSto, wipeL, hl, gAdd, str_join h, (by omega : 1 + is.length ≤ 16777216)]
theorem S_line {w : List Nat} {is : List Int} (h : RowOk w is) : F_line C [.str w, .tup (is.map .int)] = .ok (.str (rowT w is ++ [10])) [] := by
  have h0 := h.2.1
  have hb := rowT_len h
  have hl := lc_digs 2 (l := [some (.str w), some (.tup (is.map .int)), none]) rfl (by simp) h.2.2 h.2.1
  unfold F_line m_line
  simp [mDef, startD, mSeq, mSet, mRet, mRetN, mExpr, mIfS, mNop, mCons, mNil, mOp, mC, mVar, mFrz, mMov, mIf, mTest, mTru, mAnd, mOr, mNot, mAndV, mOrV, mNotV, mInt, viewL, view, isImm, mIt, itemsOf, mLC, mFor, mStr1, mTup, mLst, mCall, takeA, putA, mMeth, insAt, mMake, noBrw, mMut, lstAt, mChain, mFld, objAt, mSetF, mAugF, ioOf, mDic, pairD, mAsg, isSto, wipeL, hl, gAdd, str_join h, (by omega : 1 + is.length ≤ 16777216), (by omega : (rowT w is).length + 1 ≤ 16777216)]
/-! ### ints back -/
theorem all_gIn (l : List Nat) (h : PySem.NumText.AllDigits l) : (l.map fun c => D.str [c]).map (fun d => match d with | .str [c] => D.bl (decide (c ∈ [48, 49, 50, 51, 52, 53, 54, 55, 56, 57])) | d => d) = (l.map fun _ => true).map D.bl := by
  rw [List.map_map, List.map_map]
  refine List.map_congr_left fun c hc => ?_
  have := h c hc
  have e : c ∈ [48, 49, 50, 51, 52, 53, 54, 55, 56, 57] := by
    simp
    omega
  simp only [Function.comp]
  rw [decide_eq_true e]
theorem is_int_core {w l : List Nat} (hw : w.take 1 = [45] ∧ l = w.drop 1 ∨ w.take 1 ≠ [45] ∧ l = w) (hwl : w.length ≤ 1000) (hd : PySem.NumText.AllDigits l) (h1 : 1 ≤ l.length) (h2 : l.length ≤ 60) (h0 : ∀ c r, l = c :: r → c = 48 → w = [48]) :
    F_is_integer C [.str w] = .ok (.bl true) [] := by
  have hl := lc_map (v := 2) (l := [some (.str w), some (.str l), none]) (te := mOp gIn (mCons (mVar 2) (mCons (mC (.str [48, 49, 50, 51, 52, 53, 54, 55, 56, 57])) mNil))) (f := fun d => match d with | .str [c] => D.bl (decide (c ∈ [48, 49, 50, 51, 52, 53, 54, 55, 56, 57])) | d => d) rfl (ds := l.map fun c => .str [c]) (acc := []) (by
    intro d hd
    obtain ⟨i, hi, rfl⟩ := List.mem_map.mp hd
    simp [mOp, mCons, mVar, mNil, mC, isImm, viewL, view, gIn]) (by simp; omega)
  rw [all_gIn l hd] at hl
  obtain ⟨c, r, el⟩ : ∃ c r, l = c :: r := by
    cases l with
    | nil => simp at h1
    | cons c r => exact ⟨c, r, rfl⟩
  have hlen : l.length ≤ 16777216 := by omega
  have hi : atI l 0 = some c := by
    subst el
    simp [atI, ixN]
  have h0 := h0 c r el
  clear el
  have hwl' : w.length ≤ 16777216 := by omega
  have e1 : (1 : Int) ≤ (l.length : Int) := by omega
  have e2 : (l.length : Int) ≤ 60 := by omega
  simp only [List.nil_append] at hl
  unfold F_is_integer m_is_integer
  rcases hw with ⟨h3, h4⟩ | ⟨h3, h4⟩
  · by_cases hc : c = 48
    · have := h0 hc
      subst this
      simp at h3
    · have hcb : (c == 48) = false := beq_eq_false_iff_ne.mpr hc
      simp [mDef, startD, mSeq, mSet, mRet, mRetN, mExpr, mIfS, mNop, mCons, mNil, mOp, mC, mVar, mFrz, mMov, mIf, mTest, mTru, mAnd, mOr, mNot, mAndV, mOrV, mNotV, mInt, viewL, view, isImm, mIt, itemsOf, mLC, mFor, mStr1, mTup, mLst, mCall, takeA, putA, mMeth, insAt, mMake, noBrw, mMut, lstAt, mChain, mFld, objAt, mSetF, mAugF, ioOf, mDic, pairD, mAsg, isSto, wipeL, h3, ← h4, hcb, gSl, gSl.part?, cut01_1, cut10_1, gEq, sc2, deq, hwl', gLe, gI0, gLen, hlen, e1, e2, hl, gAll, bls_mapf, all_true, gTru, gIx, hi]
  · have h3 : (List.take 1 w == [45]) = false := beq_eq_false_iff_ne.mpr h3
    have h4 : l = w := h4
    subst h4
    by_cases hc : c = 48
    · have hcb : (c == 48) = true := beq_iff_eq.mpr hc
      have h48 : (l == [48]) = true := beq_iff_eq.mpr (h0 hc)
      simp only [mDef, startD, mSeq, mSet, mRet, mRetN, mExpr, mIfS, mNop, mCons, mNil, mOp, mC, mVar, mFrz, mMov, mIf, mTest, mTru, mAnd, mOr, mNot, mAndV, mOrV, mNotV, mInt, viewL, view, isImm, mIt, itemsOf, mLC, mFor, mStr1, mTup, mLst, mCall, takeA, putA, mMeth, insAt, mMake, noBrw, mMut, lstAt, mChain, mFld, objAt, mSetF, mAugF, ioOf, mDic, pairD, mAsg, isSto, wipeL, h3, hcb, h48, gSl, gSl.part?, cut01_1, cut10_1, gEq, sc2, deq, hwl', gLe, gI0, gLen, hlen, e1, e2, hl, gAll, bls_mapf, all_true, gTru, gIx, hi, List.map_cons, List.map_nil, List.length_cons, List.length_nil, List.getElem?_cons_zero, List.getElem?_cons_succ]
      simp [mDef, startD, mSeq, mSet, mRet, mRetN, mExpr, mIfS, mNop, mCons, mNil, mOp, mC, mVar, mFrz, mMov, mIf, mTest, mTru, mAnd, mOr, mNot, mAndV, mOrV, mNotV, mInt, viewL, view, isImm, mIt, itemsOf, mLC, mFor, mStr1, mTup, mLst, mCall, takeA, putA, mMeth, insAt, mMake, noBrw, mMut, lstAt, mChain, mFld, objAt, mSetF, mAugF, ioOf, mDic, pairD, mAsg, isSto, wipeL, h3, hcb, h48, gSl, gSl.part?, cut01_1, cut10_1, gEq, sc2, deq, hwl', gLe, gI0, gLen, hlen, e1, e2, hl, gAll, bls_mapf, all_true, gTru, gIx, hi]
    · have hcb : (c == 48) = false := beq_eq_false_iff_ne.mpr hc
      simp [mDef, startD, mSeq, mSet, mRet, mRetN, mExpr, mIfS, mNop, mCons, mNil, mOp, mC, mVar, mFrz, mMov, mIf, mTest, mTru, mAnd, mOr, mNot, mAndV, mOrV, mNotV, mInt, viewL, view, isImm, mIt, itemsOf, mLC, mFor, mStr1, mTup, mLst, mCall, takeA, putA, mMeth, insAt, mMake, noBrw, mMut, lstAt, mChain, mFld, objAt, mSetF, mAugF, ioOf, mDic, pairD, mAsg, isSto, wipeL, h3, hcb, gSl, gSl.part?, cut01_1, cut10_1, gEq, sc2, deq, hwl', gLe, gI0, gLen, hlen, e1, e2, hl, gAll, bls_mapf, all_true, gTru, gIx, hi]
theorem is_int_digs {i : Int} (h : Sm i) : F_is_integer C [.str (digs i)] = .ok (.bl true) [] := by
  have hl := digs_len h
  rcases digs_cases i with ⟨n, rfl, e⟩ | ⟨m, rfl, e⟩
  · have l := TL.numL_len (n := n) (k := 60) (by decide) h
    have hp : 1 ≤ (TL.numL n).length := List.length_pos_iff.mpr (TL.numL_ne n)
    rw [e]
    refine is_int_core (l := TL.numL n) (.inr ⟨fun z => ?_, rfl⟩) (by omega) (TL.numL_digits n) hp l fun c r ec h48 => ?_
    · have z2 : 45 ∈ (TL.numL n).take 1 := by rw [z]; simp
      have := TL.numL_digits n 45 (List.mem_of_mem_take z2)
      omega
    · by_cases h0 : 0 < n
      · obtain ⟨c', r', e', hc'⟩ := numL_head n h0
        rw [e'] at ec
        cases ec
        exact absurd h48 hc'
      · have : n = 0 := by omega
        subst this
        rfl
  · have l := TL.numL_len (n := m + 1) (k := 60) (by decide) h
    have hp : 1 ≤ (TL.numL (m + 1)).length := List.length_pos_iff.mpr (TL.numL_ne _)
    rw [e]
    refine is_int_core (l := TL.numL (m + 1)) (.inl ⟨rfl, rfl⟩) (by rw [List.length_cons]; omega) (TL.numL_digits _) hp l fun c r ec h48 => ?_
    obtain ⟨c', r', e', hc'⟩ := numL_head (m + 1) (by omega)
    rw [e'] at ec
    cases ec
    exact absurd h48 hc'
def iD (is : List Int) : List D := is.map (D.str ∘ digs)
theorem S_numbers {is : List Int} (hs : ∀ i ∈ is, Sm i) (hn : is.length ≤ 300) : F_numbers_of C [.lst (is.map (D.str ∘ digs))] = .ok (.tup (is.map .int)) [] := by
  have h1 := lc_map (v := 1) (l := [some (.lst (is.map (D.str ∘ digs))), none]) (te := mCall [false] (F_is_integer C) (mCons (mVar 1) mNil)) (f := fun _ => D.bl true) rfl (ds := is.map (D.str ∘ digs)) (acc := []) (by
    intro d hd
    obtain ⟨i, hi, rfl⟩ := List.mem_map.mp hd
    simp [mCall, takeA, putA, mCons, mVar, mNil, isImm, is_int_digs (hs i hi)]) (by simp; omega)
  have h2 := lc_map (v := 1) (l := [some (.lst (is.map (D.str ∘ digs))), none]) (te := mOp gInt (mCons (mVar 1) mNil)) (f := fun d => match d with | .str l => (match PySem.intText? ⟨l.toArray⟩ with | some i => .int i | none => .non) | d => d) rfl (ds := is.map (D.str ∘ digs)) (acc := []) (by
    intro d hd
    obtain ⟨i, hi, rfl⟩ := List.mem_map.mp hd
    have l := digs_len (hs i hi)
    simp [mOp, mCons, mVar, mNil, isImm, viewL, view, gInt, digs_text (hs i hi), (by omega : (digs i).length ≤ 640)]) (by simp; omega)
  have e1 : (is.map (D.str ∘ digs)).map (fun _ => D.bl true) = is.map (D.bl ∘ fun _ => true) := by simp
  have e2 : (is.map (D.str ∘ digs)).map (fun d => match d with | .str l => (match PySem.intText? ⟨l.toArray⟩ with | some i => D.int i | none => .non) | d => d) = is.map D.int := by
    rw [List.map_map]
    refine List.map_congr_left fun i hi => ?_
    simp [digs_text (hs i hi)]
  rw [e1] at h1
  rw [e2] at h2
  simp only [List.nil_append] at h1 h2
  unfold F_numbers_of m_numbers_of
  simp only [mDef, startD, mSeq, mSet, mRet, mRetN, mExpr, mIfS, mNop, mCons, mNil, mOp, mC, mVar, mFrz, mMov, mIf, mTest, mTru, mAnd, mOr, mNot, mAndV, mOrV, mNotV, mInt, viewL, view, isImm, mIt, itemsOf, mLC, mFor, mStr1, mTup, mLst, mCall, takeA, putA, mMeth, insAt, mMake, noBrw, mMut, lstAt, mChain, mFld, objAt, mSetF, mAugF, ioOf, mDic, pairD, mAsg, isSto, wipeL, List.map_cons, List.map_nil, List.length_cons, List.length_nil, h1, h2]
  simp [mDef, startD, mSeq, mSet, mRet, mRetN, mExpr, mIfS, mNop, mCons, mNil, mOp, mC, mVar, mFrz, mMov, mIf, mTest, mTru, mAnd, mOr, mNot, mAndV, mOrV, mNotV, mInt, viewL, view, isImm, mIt, itemsOf, mLC, mFor, mStr1, mTup, mLst, mCall, takeA, putA, mMeth, insAt, mMake, noBrw, mMut, lstAt, mChain, mFld, objAt, mSetF, mAugF, ioOf, mDic, pairD, mAsg, isSto, wipeL, h1, h2, gAll, bls_mapf, all_true, gTru, gTuple]
/-! ### lines -/
abbrev Row := List Nat × List Int
def lineT (r : Row) : List Nat := rowT r.1 r.2
def txt (R : List Row) : List Nat := (R.map fun r => lineT r ++ [10]).flatten
def Ok (R : List Row) : Prop := ∀ r ∈ R, RowOk r.1 r.2
theorem joinL_nil : ∀ ps : List (List Nat), TL.joinL [] ps = ps.flatten
  | [] => rfl
  | [p] => by simp [TL.joinL]
  | p :: q :: r => by
    have ih := joinL_nil (q :: r)
    show p ++ ([] ++ TL.joinL [] (q :: r)) = _
    rw [ih]
    rfl
theorem free_join {s : Nat} {w : List Nat} {is : List Int} (h : s < 32 ∨ 57 < s) (hw : s ∉ w) : s ∉ rowT w is := by
  unfold rowT
  have h3 : ∀ i ∈ is, s ∉ digs i := fun i _ => digs_free (by omega)
  clear h3
  have key : ∀ ps : List (List Nat), (∀ p ∈ ps, s ∉ p) → s ∉ TL.joinL [32] ps := by
    intro ps
    induction ps with
    | nil => intro _; simp [TL.joinL]
    | cons p ps ih =>
      intro hp
      cases ps with
      | nil => simpa [TL.joinL] using hp p List.mem_cons_self
      | cons q r =>
        have e : TL.joinL [32] (p :: q :: r) = p ++ ([32] ++ TL.joinL [32] (q :: r)) := rfl
        rw [e]
        intro z
        rcases List.mem_append.mp z with z | z
        · exact hp p List.mem_cons_self z
        · rcases List.mem_append.mp z with z | z
          · rw [List.mem_singleton] at z
            omega
          · exact ih (fun x hx => hp x (List.mem_cons_of_mem _ hx)) z
  refine key _ fun p hp => ?_
  rcases List.mem_cons.mp hp with z | z
  · rw [z]
    exact hw
  · obtain ⟨i, _, rfl⟩ := List.mem_map.mp z
    exact digs_free (by omega)
theorem txt_join : ∀ R : List Row, txt R = TL.joinL [10] (R.map lineT ++ [[]])
  | [] => rfl
  | r :: R => by
    have ih := txt_join R
    have e : txt (r :: R) = lineT r ++ ([10] ++ txt R) := by
      unfold txt
      rw [List.map_cons, List.flatten_cons, List.append_assoc]
    rw [e, ih]
    cases R with
    | nil => simp [TL.joinL]
    | cons q R => rfl
theorem txt_split {R : List Row} (h : Ok R) : TL.spl [10] 0 [] (txt R) = R.map lineT ++ [[]] := by
  rw [txt_join]
  refine TL.spl_join (by simp) fun p hp => ?_
  rcases List.mem_append.mp hp with z | z
  · obtain ⟨r, hr, rfl⟩ := List.mem_map.mp z
    exact free_join (by omega) (h r hr).1.2.1
  · rw [List.mem_singleton.mp z]
    simp
theorem row_split {w : List Nat} {is : List Int} (h : RowOk w is) : TL.spl [32] 0 [] (rowT w is) = w :: is.map digs := by
  refine TL.spl_join (by simp) fun p hp => ?_
  rcases List.mem_cons.mp hp with z | z
  · rw [z]
    exact h.1.2.2
  · obtain ⟨i, _, rfl⟩ := List.mem_map.mp z
    exact digs_free (by omega)
theorem txt_count : ∀ R : List Row, R.length ≤ (txt R).length
  | [] => Nat.zero_le _
  | r :: R => by
    have ih := txt_count R
    have e : txt (r :: R) = lineT r ++ ([10] ++ txt R) := by
      unfold txt
      rw [List.map_cons, List.flatten_cons, List.append_assoc]
    rw [e, List.length_append, List.length_append, List.length_cons, List.length_singleton]
    omega
theorem atI_last {α : Type} (l : List α) (x : α) : atI (l ++ [x]) (-1) = some x := by
  have h : ixN (l ++ [x]).length (-1) = some l.length := by
    simp [ixN]
    omega
  unfold atI
  rw [h]
  simp
def rowD (r : Row) : D := .tup [.str (lineT r), .bl true]
theorem S_lines_of {R : List Row} (h : Ok R) (hl : (txt R).length ≤ 20000) : F_lines_of C [.str (txt R)] = .ok (.own (R.map rowD)) [] := by
  have hc := txt_count R
  have e : ((R.map lineT ++ [[]]).map D.str) = R.map (D.str ∘ lineT) ++ [.str []] := by simp
  have h1 := lc_map (v := 3) (l := [some (.str (txt R)), some (.lst (R.map (D.str ∘ lineT) ++ [.str []])), none, none]) (te := mTup (mCons (mVar 3) (mCons (mC (.bl true)) mNil))) (f := fun d => .tup [d, .bl true]) rfl (ds := R.map (D.str ∘ lineT)) (acc := []) (by
    intro d hd
    obtain ⟨i, hi, rfl⟩ := List.mem_map.mp hd
    simp [mTup, mCons, mVar, mNil, mC, isImm]) (by simp; omega)
  have e2 : (R.map (D.str ∘ lineT)).map (fun d => D.tup [d, .bl true]) = R.map rowD := by
    rw [List.map_map]
    rfl
  rw [e2] at h1
  simp only [List.nil_append] at h1
  unfold F_lines_of m_lines_of
  simp [mDef, startD, mSeq, mSet, mRet, mRetN, mExpr, mIfS, mNop, mCons, mNil, mOp, mC, mVar, mFrz, mMov, mIf, mTest, mTru, mAnd, mOr, mNot, mAndV, mOrV, mNotV, mInt, viewL, view, isImm, mIt, itemsOf, mLC, mFor, mStr1, mTup, mLst, mCall, takeA, putA, mMeth, insAt, mMake, noBrw, mMut, lstAt, mChain, mFld, objAt, mSetF, mAugF, ioOf, mDic, pairD, mAsg, isSto, wipeL, gSplit, txt_split h, (by omega : (txt R).length ≤ 16777214), gNeg, gSl, gSl.part?, cutm1, h1, gIx, atI_last, gNe, sc2, deq]

theorem atI_zero {α : Type} (x : α) (l : List α) : atI (x :: l) 0 = some x := by simp [atI, ixN]
theorem atI_one {α : Type} (x y : α) (l : List α) : atI (x :: y :: l) 1 = some y := by
  have h : ixN (x :: y :: l).length 1 = some 1 := by
    simp [ixN]
    omega
  unfold atI
  rw [h]
  rfl
theorem atI_two {α : Type} (x y z : α) (l : List α) : atI (x :: y :: z :: l) 2 = some z := by
  have h : ixN (x :: y :: z :: l).length 2 = some 2 := by
    simp [ixN]
    omega
  unfold atI
  rw [h]
  rfl
end K84

set_option maxHeartbeats 1000000
namespace K84
open FM L2
open PySem (Str Addr)
variable {C : Addr}
def fsR (R : List Row) (k : Nat) : List (Str × D) := [("rows", .lst (R.map rowD)), ("at", .int (k : Int))]
abbrev rd (C : Addr) (R : List Row) (k : Nat) : D := .obj C (fsR R k)
section
variable {R : List Row} {k : Nat}
theorem f_rows : (fsR R k).lookup ("rows" : Str) = some (D.lst (R.map rowD)) := rfl
theorem f_at : (fsR R k).lookup ("at" : Str) = some (D.int (k : Int)) := rfl
theorem f_1 : (fsR R k).lookup ("is_done" : Str) = none := rfl
theorem f_2 : (fsR R k).lookup ("peek" : Str) = none := rfl
theorem f_3 : (fsR R k).lookup ("take" : Str) = none := rfl
theorem f_4 : (fsR R k).lookup ("finish" : Str) = none := rfl
theorem f_len : (fsR R k).length < 1000 := by simp [fsR]
theorem f_put1 : putFD ("at" : Str) (.int ((k : Int) + 1)) (fsR R k) = fsR R (k + 1) := rfl
theorem f_init : putFD ("at" : Str) (.int 0) (putFD ("rows" : Str) (.lst (R.map rowD)) []) = fsR R 0 := rfl
theorem S_init (h : Ok R) (hl : (txt R).length ≤ 20000) : F_Lines_init C [.obj C [], .str (txt R)] = .ok .non [rd C R 0] := by
  have e : (putFD ("rows" : Str) (D.lst (R.map rowD)) []).length < 1000 := by simp [putFD]
  unfold F_Lines_init m_Lines_init
  simp [mDef, startD, mSeq, mSet, mRet, mRetN, mExpr, mIfS, mNop, mCons, mNil, mOp, mC, mVar, mFrz, mMov, mIf, mTest, mTru, mAnd, mOr, mNot, mAndV, mOrV, mNotV, mInt, viewL, view, isImm, mIt, itemsOf, mLC, mFor, mStr1, mTup, mLst, mCall, takeA, putA, mMeth, insAt, mMake, noBrw, mMut, lstAt, mChain, mFld, objAt, mSetF, mAugF, ioOf, mDic, pairD, mAsg, isSto, wipeL, S_lines_of h hl, f_init, e]
theorem S_done : F_Lines_is_done C [rd C R k] = .ok (.bl (decide (R.length ≤ k))) [rd C R k] := by
  unfold F_Lines_is_done m_Lines_is_done
  simp [mDef, startD, mSeq, mSet, mRet, mRetN, mExpr, mIfS, mNop, mCons, mNil, mOp, mC, mVar, mFrz, mMov, mIf, mTest, mTru, mAnd, mOr, mNot, mAndV, mOrV, mNotV, mInt, viewL, view, isImm, mIt, itemsOf, mLC, mFor, mStr1, mTup, mLst, mCall, takeA, putA, mMeth, insAt, mMake, noBrw, mMut, lstAt, mChain, mFld, objAt, mSetF, mAugF, ioOf, mDic, pairD, mAsg, isSto, wipeL, f_rows, f_at, gLen, gGe, gI0]
def peekR (R : List Row) (k : Nat) (ls : List (D × D)) : D := match R[k]? with
  | none => .non
  | some r => match lookD ls (.str r.1) with
    | some (.int m) => if m = -1 ∨ m = r.2.length then .tup [.str r.1, .tup (r.2.map .int)] else .non
    | _ => .non
theorem atI_row (h : k < R.length) : atI (R.map rowD) (k : Int) = some (rowD R[k]) := by
  simp [atI, ixN, h]
theorem S_peek {ls : List (D × D)} (h : Ok R) (hl : (txt R).length ≤ 20000) (hm : ∀ w d, lookD ls (.str w) = some d → ∃ m, d = .int m) : F_Lines_peek C [rd C R k, .dic ls] = .ok (peekR R k ls) [rd C R k] := by
  unfold F_Lines_peek m_Lines_peek
  by_cases hk : k < R.length
  · have hr : R[k]? = some R[k] := List.getElem?_eq_getElem hk
    generalize hR : R[k] = r at hr
    have hat : atI (R.map rowD) (k : Int) = some (rowD r) := by rw [atI_row hk, hR]
    have ok : RowOk r.1 r.2 := h r (by rw [← hR]; exact List.getElem_mem hk)
    have hlen := rowT_len ok
    have nk : ¬ R.length ≤ k := by omega
    have e3 : (r.2.length : Int) ≠ -1 := by omega
    unfold peekR
    rw [hr]
    cases hd : lookD ls (.str r.1) with
    | none => simp [mDef, startD, mSeq, mSet, mRet, mRetN, mExpr, mIfS, mNop, mCons, mNil, mOp, mC, mVar, mFrz, mMov, mIf, mTest, mTru, mAnd, mOr, mNot, mAndV, mOrV, mNotV, mInt, viewL, view, isImm, mIt, itemsOf, mLC, mFor, mStr1, mTup, mLst, mCall, takeA, putA, mMeth, insAt, mMake, noBrw, mMut, lstAt, mChain, mFld, objAt, mSetF, mAugF, ioOf, mDic, pairD, mAsg, isSto, wipeL, f_1, f_rows, f_at, S_done, nk, gTru, gIx, hat, rowD, atI_one, atI_zero, gSplit, lineT, row_split ok, (by omega : (rowT r.1 r.2).length ≤ 16777214), gSl, gSl.part?, cut10_1, S_numbers ok.2.2 ok.2.1, gDnin, dk, hd, gIsN, FM.isNon]
    | some d =>
      obtain ⟨m, rfl⟩ := hm _ _ hd
      by_cases hmm : m = -1 ∨ m = r.2.length
      · have hb : ((-1 : Int) == m || (r.2.length : Int) == m) = true := by
          simp only [Bool.or_eq_true, beq_iff_eq]
          omega
        simp [mDef, startD, mSeq, mSet, mRet, mRetN, mExpr, mIfS, mNop, mCons, mNil, mOp, mC, mVar, mFrz, mMov, mIf, mTest, mTru, mAnd, mOr, mNot, mAndV, mOrV, mNotV, mInt, viewL, view, isImm, mIt, itemsOf, mLC, mFor, mStr1, mTup, mLst, mCall, takeA, putA, mMeth, insAt, mMake, noBrw, mMut, lstAt, mChain, mFld, objAt, mSetF, mAugF, ioOf, mDic, pairD, mAsg, isSto, wipeL, f_1, f_rows, f_at, S_done, nk, gTru, gIx, hat, rowD, atI_one, atI_zero, gSplit, lineT, row_split ok, (by omega : (rowT r.1 r.2).length ≤ 16777214), gSl, gSl.part?, cut10_1, S_numbers ok.2.2 ok.2.1, gDnin, dk, hd, gIsN, FM.isNon, gDix, gNeg, gLen, gIn, flatD, deq, hmm, hb]
      · have hb : ((-1 : Int) == m || (r.2.length : Int) == m) = false := by
          simp only [Bool.or_eq_false_iff, beq_eq_false_iff_ne]
          omega
        simp [mDef, startD, mSeq, mSet, mRet, mRetN, mExpr, mIfS, mNop, mCons, mNil, mOp, mC, mVar, mFrz, mMov, mIf, mTest, mTru, mAnd, mOr, mNot, mAndV, mOrV, mNotV, mInt, viewL, view, isImm, mIt, itemsOf, mLC, mFor, mStr1, mTup, mLst, mCall, takeA, putA, mMeth, insAt, mMake, noBrw, mMut, lstAt, mChain, mFld, objAt, mSetF, mAugF, ioOf, mDic, pairD, mAsg, isSto, wipeL, f_1, f_rows, f_at, S_done, nk, gTru, gIx, hat, rowD, atI_one, atI_zero, gSplit, lineT, row_split ok, (by omega : (rowT r.1 r.2).length ≤ 16777214), gSl, gSl.part?, cut10_1, S_numbers ok.2.2 ok.2.1, gDnin, dk, hd, gIsN, FM.isNon, gDix, gNeg, gLen, gIn, flatD, deq, hmm, hb]
  · have nk : R.length ≤ k := by omega
    have hr : R[k]? = none := List.getElem?_eq_none nk
    unfold peekR
    rw [hr]
    simp [mDef, startD, mSeq, mSet, mRet, mRetN, mExpr, mIfS, mNop, mCons, mNil, mOp, mC, mVar, mFrz, mMov, mIf, mTest, mTru, mAnd, mOr, mNot, mAndV, mOrV, mNotV, mInt, viewL, view, isImm, mIt, itemsOf, mLC, mFor, mStr1, mTup, mLst, mCall, takeA, putA, mMeth, insAt, mMake, noBrw, mMut, lstAt, mChain, mFld, objAt, mSetF, mAugF, ioOf, mDic, pairD, mAsg, isSto, wipeL, f_1, S_done, nk, gTru]
theorem S_take {ls : List (D × D)} (h : Ok R) (hl : (txt R).length ≤ 20000) (hm : ∀ w d, lookD ls (.str w) = some d → ∃ m, d = .int m) {w : List Nat} {is : List Int} (hp : peekR R k ls = .tup [.str w, .tup (is.map .int)]) : F_Lines_take C [rd C R k, .dic ls] = .ok (.tup [.str w, .tup (is.map .int)]) [rd C R (k + 1)] := by
  unfold F_Lines_take m_Lines_take
  simp [mDef, startD, mSeq, mSet, mRet, mRetN, mExpr, mIfS, mNop, mCons, mNil, mOp, mC, mVar, mFrz, mMov, mIf, mTest, mTru, mAnd, mOr, mNot, mAndV, mOrV, mNotV, mInt, viewL, view, isImm, mIt, itemsOf, mLC, mFor, mStr1, mTup, mLst, mCall, takeA, putA, mMeth, insAt, mMake, noBrw, mMut, lstAt, mChain, mFld, objAt, mSetF, mAugF, ioOf, mDic, pairD, mAsg, isSto, wipeL, f_2, S_peek h hl hm, hp, gIsN, FM.isNon, f_at, f_len, f_put1]
/-! ### taken_rows -/
theorem one_m {w : List Nat} {m : Int} : ∀ v d, lookD [(.str w, .int m)] (.str v) = some d → ∃ m, d = .int m := by
  intro v d h
  unfold lookD at h
  split at h
  · exact ⟨m, (Option.some.inj h).symm⟩
  · cases h
theorem dic_ev {w : List Nat} {m : Int} {l : FM.Loc} : (mFrz (mDic (mCons (mC (.str w)) (mCons (mC (.int m)) mNil)))) l = .ok (.dic [(.str w, .int m)]) l := by
  simp [mDef, startD, mSeq, mSet, mRet, mRetN, mExpr, mIfS, mNop, mCons, mNil, mOp, mC, mVar, mFrz, mMov, mIf, mTest, mTru, mAnd, mOr, mNot, mAndV, mOrV, mNotV, mInt, viewL, view, isImm, mIt, itemsOf, mLC, mFor, mStr1, mTup, mLst, mCall, takeA, putA, mMeth, insAt, mMake, noBrw, mMut, lstAt, mChain, mFld, objAt, mSetF, mAugF, ioOf, mDic, pairD, mAsg, isSto, wipeL, dk]
theorem dk_inj {v w : List Nat} : (dk (.str w) = dk (.str v)) ↔ w = v := by
  simp [dk]
theorem peek_hit {w : List Nat} {r : Row} (hr : R[k]? = some r) (hw : r.1 = w) : peekR R k [(.str w, .int (-1))] = .tup [.str w, .tup (r.2.map .int)] := by
  unfold peekR
  rw [hr]
  simp [lookD, hw]
theorem peek_hit_n {w : List Nat} {r : Row} {n : Nat} (hr : R[k]? = some r) (hw : r.1 = w) (hn : r.2.length = n) : peekR R k [(.str w, .int n)] = .tup [.str w, .tup (r.2.map .int)] := by
  unfold peekR
  rw [hr]
  simp [lookD, hw, hn]
theorem peek_miss {w : List Nat} {m : Int} (hr : ∀ r, R[k]? = some r → r.1 ≠ w) : peekR R k [(.str w, .int m)] = .non := by
  unfold peekR
  cases e : R[k]? with
  | none => rfl
  | some r =>
    have := hr r e
    simp [lookD, dk_inj, Ne.symm this]
/-- the rows of one word from k on -/
theorem S_taken_rows (h : Ok R) (hl : (txt R).length ≤ 20000) {w : List Nat} {n : Nat} {A : List (List Int)} (hA : A.length = n) (ha : ∀ i is, A[i]? = some is → R[k + i]? = some (w, is)) (hz : ∀ r, R[k + n]? = some r → r.1 ≠ w) :
    F_taken_rows C [rd C R k, .str w] = .ok (.tup (A.map fun is => .tup (is.map .int))) [rd C R (k + n)] := by
  have hc := txt_count R
  have wh : ∀ (j i : Nat), j + i = n → loopW (mTest (mOp gNotN (mCons (mMeth C "peek" [true, false] (F_Lines_peek C) (mVar 0) (mCons (mFrz (mDic (mCons (mVar 1) (mCons (mOp gNeg (mCons (mC (.int 1)) mNil)) (mNil))))) (mNil))) (mCons (mC .non) mNil))))
      (mExpr (mMut 2 gApp (mCons (mOp gIx (mCons (mMeth C "take" [true, false] (F_Lines_take C) (mVar 0) (mCons (mFrz (mDic (mCons (mVar 1) (mCons (mOp gNeg (mCons (mC (.int 1)) mNil)) (mNil))))) (mNil))) (mCons (mC (.int 1)) mNil))) (mNil)))) (j + 1)
      [some (rd C R (k + i)), some (.str w), some (.own ((A.take i).map fun is => .tup (is.map .int)))] = .nx [some (rd C R (k + n)), some (.str w), some (.own (A.map fun is => .tup (is.map .int)))] := by
    intro j
    induction j with
    | zero =>
      intro i hi
      obtain rfl : i = n := by omega
      rw [List.take_of_length_le (by omega)]
      refine while_end ?_
      simp [mDef, startD, mSeq, mSet, mRet, mRetN, mExpr, mIfS, mNop, mCons, mNil, mOp, mC, mVar, mFrz, mMov, mIf, mTest, mTru, mAnd, mOr, mNot, mAndV, mOrV, mNotV, mInt, viewL, view, isImm, mIt, itemsOf, mLC, mFor, mStr1, mTup, mLst, mCall, takeA, putA, mMeth, insAt, mMake, noBrw, mMut, lstAt, mChain, mFld, objAt, mSetF, mAugF, ioOf, mDic, pairD, mAsg, isSto, wipeL, dk, gNeg, f_2, S_peek h hl one_m, peek_miss hz, gNotN, FM.isNon]
    | succ j ih =>
      intro i hi
      have hlt : i < A.length := by omega
      have e0 : A[i]? = some A[i] := List.getElem?_eq_getElem hlt
      have e1 := ha i _ e0
      have hp := peek_hit e1 rfl
      have ht : (A.take i).length < 16777216 := by
        have : k + i < R.length := (List.getElem?_eq_some_iff.mp e1).1
        rw [List.length_take]
        omega
      refine while_step (l1 := [some (rd C R (k + i)), some (.str w), some (.own ((A.take i).map fun is => .tup (is.map .int)))]) ?_ ?_ (ih (i + 1) (by omega))
      · simp [mDef, startD, mSeq, mSet, mRet, mRetN, mExpr, mIfS, mNop, mCons, mNil, mOp, mC, mVar, mFrz, mMov, mIf, mTest, mTru, mAnd, mOr, mNot, mAndV, mOrV, mNotV, mInt, viewL, view, isImm, mIt, itemsOf, mLC, mFor, mStr1, mTup, mLst, mCall, takeA, putA, mMeth, insAt, mMake, noBrw, mMut, lstAt, mChain, mFld, objAt, mSetF, mAugF, ioOf, mDic, pairD, mAsg, isSto, wipeL, dk, gNeg, f_2, S_peek h hl one_m, hp, gNotN, FM.isNon]
      · have ea : A.take (i + 1) = A.take i ++ [A[i]] := by rw [List.take_add_one, e0]; rfl
        have ek : k + (i + 1) = k + i + 1 := by omega
        rw [ea, ek]
        simp at ht
        simp [mDef, startD, mSeq, mSet, mRet, mRetN, mExpr, mIfS, mNop, mCons, mNil, mOp, mC, mVar, mFrz, mMov, mIf, mTest, mTru, mAnd, mOr, mNot, mAndV, mOrV, mNotV, mInt, viewL, view, isImm, mIt, itemsOf, mLC, mFor, mStr1, mTup, mLst, mCall, takeA, putA, mMeth, insAt, mMake, noBrw, mMut, lstAt, mChain, mFld, objAt, mSetF, mAugF, ioOf, mDic, pairD, mAsg, isSto, wipeL, dk, gNeg, f_3, S_take h hl one_m hp, gIx, atI_one, gApp, ht]
        rw [List.take_add_one]
        simp [e0]
  have := mWhile_eq (n + 1) (wh n 0 (by omega)) (by simp)
  unfold F_taken_rows m_taken_rows
  simp at this
  simp [mDef, startD, mSeq, mSet, mRet, mRetN, mExpr, mIfS, mNop, mCons, mNil, mOp, mC, mVar, mFrz, mMov, mIf, mTest, mTru, mAnd, mOr, mNot, mAndV, mOrV, mNotV, mInt, viewL, view, isImm, mIt, itemsOf, mLC, mFor, mStr1, mTup, mLst, mCall, takeA, putA, mMeth, insAt, mMake, noBrw, mMut, lstAt, mChain, mFld, objAt, mSetF, mAugF, ioOf, mDic, pairD, mAsg, isSto, wipeL, this, gTuple]
end
end K84

set_option maxHeartbeats 1000000
namespace K84
open FM L2
open PySem (Str Addr)
variable {C : Addr}
theorem lc_gen {vs : List Nat} {t : MG} {te : M D} {f : D → D} {l : FM.Loc} : ∀ {ds acc : List D}, (∀ d ∈ ds, ∃ l1 l2, t d l = some l1 ∧ te l1 = .ok (f d) l2 ∧ isImm (f d) = true ∧ wipeL l2 vs = l) → acc.length + ds.length ≤ 16777216 →
    loopC vs t mYes te ds acc l = some (acc ++ ds.map f, l)
  | [], acc, _, _ => by
    unfold loopC
    rw [List.map_nil, List.append_nil]
  | d :: ds, acc, h, hn => by
    obtain ⟨l1, l2, h1, h2, h3, h4⟩ := h d List.mem_cons_self
    rw [List.length_cons] at hn
    have ih := lc_gen (vs := vs) (t := t) (te := te) (f := f) (l := l) (ds := ds) (acc := acc ++ [f d]) (fun x hx => h x (List.mem_cons_of_mem _ hx)) (by rw [List.length_append, List.length_singleton]; omega)
    unfold mYes at ih
    unfold loopC mYes
    rw [h1]
    dsimp only
    rw [h2]
    dsimp only
    rw [h3, decide_eq_true (by omega : acc.length < 16777216), h4]
    simp only [Bool.and_true, if_true]
    rw [List.map_cons]
    have e : acc ++ f d :: ds.map f = (acc ++ [f d]) ++ ds.map f := by rw [List.append_assoc]; rfl
    rw [e]
    exact ih
def tupI (is : List Int) : D := .tup (is.map .int)
def unI : D → List Int
  | .tup l => (ints? l).getD []
  | _ => []
theorem un_tupI (is : List Int) : unI (tupI is) = is := by simp [unI, tupI, ints_map]
theorem lc_line {v : Nat} {l : FM.Loc} {w : List Nat} {A : List (List Int)} (hl : l.set v none = l) (hv : v < l.length) (ok : ∀ is ∈ A, RowOk w is) (hn : A.length ≤ 20000) :
    loopC [v] (gN v) mYes (mCall [false, false] (F_line C) (mCons (mC (.str w)) (mCons (mVar v) mNil))) (A.map tupI) [] l = some (A.map (D.str ∘ fun is => rowT w is ++ [10]), l) := by
  have h := lc_map (v := v) (l := l) (te := mCall [false, false] (F_line C) (mCons (mC (.str w)) (mCons (mVar v) mNil))) (f := fun d => .str (rowT w (unI d) ++ [10])) hl (ds := A.map tupI) (acc := []) (by
    intro d hd
    obtain ⟨is, hi, rfl⟩ := List.mem_map.mp hd
    simp [mCall, takeA, putA, mCons, mVar, mNil, mC, isImm, hv, un_tupI]
    simp [tupI, takeA, putA, S_line (ok is hi)]) (by simp; omega)
  rw [h, List.map_map]
  simp [Function.comp_def, un_tupI]
theorem lc_text {v : Nat} {l : FM.Loc} {w : List Nat} {A : List (List Int)} (hl : l.set v none = l) (hv : v < l.length) (ok : ∀ is ∈ A, RowOk w is) (hn : A.length ≤ 20000) :
    loopC [v] (gN v) mYes (mCall [false, false] (F__law_text_line C) (mCons (mC (.str w)) (mCons (mVar v) mNil))) (A.map tupI) [] l = some (A.map (D.str ∘ fun is => lineT (w, is)), l) := by
  have h := lc_map (v := v) (l := l) (te := mCall [false, false] (F__law_text_line C) (mCons (mC (.str w)) (mCons (mVar v) mNil))) (f := fun d => .str (lineT (w, unI d))) hl (ds := A.map tupI) (acc := []) (by
    intro d hd
    obtain ⟨is, hi, rfl⟩ := List.mem_map.mp hd
    simp [mCall, takeA, putA, mCons, mVar, mNil, mC, isImm, hv, un_tupI]
    simp [tupI, takeA, putA, S_text_line (ok is hi), lineT]) (by simp; omega)
  rw [h, List.map_map]
  simp [Function.comp_def, un_tupI]
theorem join_flat {α : Type} {f : α → List Nat} {A : List α} (k : Nat) (h : ∀ a ∈ A, (f a).length ≤ k) (hb : A.length * k ≤ 16777216) : gJoin [.str [], .lst (A.map (D.str ∘ f))] = some (.str (A.map f).flatten) := by
  have hs := sum_le (fun a => (f a).length) k A h
  simp only [gJoin, strs_mapf, Option.bind_some, joinL_nil]
  rw [if_pos]
  rw [List.map_map]
  simp only [List.length_nil, Nat.mul_zero, Nat.add_zero, Function.comp_def]
  omega
def rws (w : List Nat) (A : List (List Int)) : List Row := A.map fun is => (w, is)
theorem txt_rws (w : List Nat) (A : List (List Int)) : txt (rws w A) = (A.map fun is => rowT w is ++ [10]).flatten := by
  unfold txt rws
  rw [List.map_map]
  rfl
theorem txt_app (R S : List Row) : txt (R ++ S) = txt R ++ txt S := by simp [txt]
theorem txt_len {R : List Row} (h : Ok R) : (txt R).length ≤ R.length * 19001 := by
  unfold txt
  rw [List.length_flatten, List.map_map]
  exact sum_le _ _ R fun r hr => by
    have := rowT_len (h r hr)
    simp [lineT]
    omega
theorem txt_short {R : List Row} (h : Ok R) (hs : ∀ r ∈ R, r.2.length ≤ 10) : (txt R).length ≤ R.length * 701 := by
  unfold txt
  rw [List.length_flatten, List.map_map]
  exact sum_le _ _ R fun r hr => by
    have := rowT_short (h r hr) (hs r hr)
    simp [lineT]
    omega
theorem ok_rws {w : List Nat} {A : List (List Int)} : Ok (rws w A) ↔ ∀ is ∈ A, RowOk w is := by
  simp [Ok, rws]
theorem ok_app {R S : List Row} : Ok (R ++ S) ↔ Ok R ∧ Ok S := by
  simp only [Ok, List.mem_append]
  exact ⟨fun h => ⟨fun r hr => h r (.inl hr), fun r hr => h r (.inr hr)⟩, fun h r hr => hr.elim (h.1 r) (h.2 r)⟩
theorem join_rws {w : List Nat} {A : List (List Int)} (ok : ∀ is ∈ A, RowOk w is) (hsh : ∀ is ∈ A, is.length ≤ 10) (hn : A.length ≤ 20000) : gJoin [.str [], .lst (A.map (D.str ∘ fun is => rowT w is ++ [10]))] = some (.str (txt (rws w A))) := by
  rw [txt_rws]
  refine join_flat 701 (fun is hi => ?_) (by omega)
  have := rowT_short (ok is hi) (hsh is hi)
  rw [List.length_append, List.length_singleton]
  omega
theorem txt_cons (r : Row) (R : List Row) : txt (r :: R) = (lineT r ++ [10]) ++ txt R := by simp [txt]
/-! ### reading -/
theorem T_rows {R : List Row} {k : Nat} (h : Ok R) (hl : (txt R).length ≤ 20000) {w : List Nat} {A : List (List Int)} {rest : List Row} (hd : R.drop k = rws w A ++ rest) (hz : ∀ r, rest[0]? = some r → r.1 ≠ w) :
    F_taken_rows C [rd C R k, .str w] = .ok (.tup (A.map tupI)) [rd C R (k + A.length)] ∧ R.drop (k + A.length) = rest := by
  have hlen : (rws w A).length = A.length := List.length_map ..
  have h2 : R.drop (k + A.length) = rest := by
    rw [← List.drop_drop, hd, ← hlen, List.drop_left]
  refine ⟨S_taken_rows h hl rfl (fun i is hi => ?_) fun r hr => ?_, h2⟩
  · have : i < A.length := (List.getElem?_eq_some_iff.mp hi).1
    rw [← List.getElem?_drop, hd, List.getElem?_append_left (by omega)]
    simp [rws, hi]
  · refine hz r ?_
    have : R[k + A.length]? = (R.drop (k + A.length))[0]? := by rw [List.getElem?_drop]; rfl
    rw [← h2, ← this]
    exact hr
theorem drop_get {R : List Row} {k : Nat} {r : Row} {rest : List Row} (h : R.drop k = r :: rest) : R[k]? = some r ∧ R.drop (k + 1) = rest := by
  refine ⟨?_, ?_⟩
  · have : R[k]? = (R.drop k)[0]? := by rw [List.getElem?_drop]; rfl
    rw [this, h]
    rfl
  · rw [← List.drop_drop, h]
    rfl
theorem drop_end {R : List Row} {k : Nat} (h : R.drop k = []) : R.length ≤ k := List.drop_eq_nil_iff.mp h
end K84

set_option maxHeartbeats 1000000
namespace K84
open FM L2
open PySem (Str Addr)
variable {C : Addr}
/-! ### draws -/
def AllI (l : List D) : Prop := ∃ is : List Int, l = is.map .int
theorem S_take' {is : List Int} {m : Int} (hm : 0 < m) : ∃ (i : Int) (js : List Int), F__law_take C [.own (is.map .int), .int m] = .ok (.int i) [.own (js.map .int)] ∧ 0 ≤ i ∧ i < m := by
  unfold F__law_take m__law_take
  by_cases h0 : is = []
  · subst h0
    refine ⟨0, [], ?_, by omega, hm⟩
    simp [mDef, startD, mSeq, mSet, mRet, mRetN, mExpr, mIfS, mNop, mCons, mNil, mOp, mC, mVar, mFrz, mMov, mIf, mTest, mTru, mAnd, mOr, mNot, mAndV, mOrV, mNotV, mInt, viewL, view, isImm, mIt, itemsOf, mLC, mFor, mStr1, mTup, mLst, mCall, takeA, putA, mMeth, insAt, mMake, noBrw, mMut, lstAt, mChain, mFld, objAt, mSetF, mAugF, ioOf, mDic, pairD, mAsg, isSto, wipeL, gLen, gEq, sc2, deq]
  · obtain ⟨js, x, rfl⟩ : ∃ js x, is = js ++ [x] := ⟨is.dropLast, is.getLast h0, (List.dropLast_concat_getLast h0).symm⟩
    refine ⟨x % m, js, ?_, Int.emod_nonneg _ (by omega), Int.emod_lt_of_pos _ hm⟩
    have e : (((js.length : Int) + 1) == 0) = false := by
      simp
      omega
    simp [mDef, startD, mSeq, mSet, mRet, mRetN, mExpr, mIfS, mNop, mCons, mNil, mOp, mC, mVar, mFrz, mMov, mIf, mTest, mTru, mAnd, mOr, mNot, mAndV, mOrV, mNotV, mInt, viewL, view, isImm, mIt, itemsOf, mLC, mFor, mStr1, mTup, mLst, mCall, takeA, putA, mMeth, insAt, mMake, noBrw, mMut, lstAt, mChain, mFld, objAt, mSetF, mAugF, ioOf, mDic, pairD, mAsg, isSto, wipeL, gLen, gEq, sc2, deq, e, gPop, gInt, gMod, gI, hm]
theorem atI_mod {α : Type} {l : List α} (h : l ≠ []) (j : Int) : ∃ x, atI l (j % (l.length : Int)) = some x ∧ x ∈ l := by
  have hp : 0 < l.length := List.length_pos_iff.mpr h
  have a := Int.emod_nonneg j (by omega : (l.length : Int) ≠ 0)
  have b := Int.emod_lt_of_pos j (by omega : 0 < (l.length : Int))
  generalize j % (l.length : Int) = k at a b
  have hk : k.toNat < l.length := by omega
  refine ⟨l[k.toNat], ?_, List.getElem_mem hk⟩
  unfold atI ixN
  rw [if_pos a, if_pos b]
  simp [hk]
theorem atI_mod_int {l : List Int} (h : l ≠ []) (j : Int) : ∃ x, atI (l.map D.int) (j % (l.length : Int)) = some (.int x) := by
  have := atI_mod (l := l.map D.int) (by simpa using h) j
  rw [List.length_map] at this
  obtain ⟨x, hx, hm⟩ := this
  obtain ⟨i, _, rfl⟩ := List.mem_map.mp hm
  exact ⟨i, hx⟩
theorem S_cell {ns : List Int} {j : Int} : ∃ i, F__law_cell C [.lst (ns.map .int), .int j] = .ok (.int i) [] := by
  unfold F__law_cell m__law_cell
  by_cases h0 : ns = []
  · subst h0
    refine ⟨0, ?_⟩
    simp [mDef, startD, mSeq, mSet, mRet, mRetN, mExpr, mIfS, mNop, mCons, mNil, mOp, mC, mVar, mFrz, mMov, mIf, mTest, mTru, mAnd, mOr, mNot, mAndV, mOrV, mNotV, mInt, viewL, view, isImm, mIt, itemsOf, mLC, mFor, mStr1, mTup, mLst, mCall, takeA, putA, mMeth, insAt, mMake, noBrw, mMut, lstAt, mChain, mFld, objAt, mSetF, mAugF, ioOf, mDic, pairD, mAsg, isSto, wipeL, gLen, gEq, sc2, deq]
  · obtain ⟨x, hx⟩ := atI_mod_int h0 j
    have hp : 0 < ns.length := List.length_pos_iff.mpr h0
    have e : ((ns.length : Int) == 0) = false := by
      simp
      exact h0
    refine ⟨x, ?_⟩
    simp [mDef, startD, mSeq, mSet, mRet, mRetN, mExpr, mIfS, mNop, mCons, mNil, mOp, mC, mVar, mFrz, mMov, mIf, mTest, mTru, mAnd, mOr, mNot, mAndV, mOrV, mNotV, mInt, viewL, view, isImm, mIt, itemsOf, mLC, mFor, mStr1, mTup, mLst, mCall, takeA, putA, mMeth, insAt, mMake, noBrw, mMut, lstAt, mChain, mFld, objAt, mSetF, mAugF, ioOf, mDic, pairD, mAsg, isSto, wipeL, gLen, gEq, sc2, deq, e, gInt, gMod, gI, hp, gIx, hx]
theorem S_any {ns is : List Int} : ∃ (i : Int) (js : List Int), F__law_any_number C [.lst (ns.map .int), .own (is.map .int)] = .ok (.int i) [.own (js.map .int)] ∧ Sm i := by
  unfold F__law_any_number m__law_any_number
  obtain ⟨a, j1, h1, a1, a2⟩ := S_take' (C := C) (is := is) (m := 30) (by decide)
  obtain ⟨b, j2, h2, b1, b2⟩ := S_take' (C := C) (is := j1) (m := 9) (by decide)
  by_cases hb : b = 2
  · obtain ⟨x, hx⟩ := S_cell (C := C) (ns := ns) (j := a - 4)
    obtain ⟨c, j3, h3, c1, c2⟩ := S_take' (C := C) (is := j2) (m := 3) (by decide)
    have hbb : (b == 2) = true := beq_iff_eq.mpr hb
    obtain ⟨y, hy⟩ : ∃ y : Int, y = if x < 0 then -x else x := ⟨_, rfl⟩
    have z0 := Int.emod_nonneg y (by decide : (1000 : Int) ≠ 0)
    have z1 := Int.emod_lt_of_pos y (by decide : (0 : Int) < 1000)
    have y0 := Int.emod_nonneg y (by decide : (10 ^ 60 : Int) ≠ 0)
    have y1 := Int.emod_lt_of_pos y (by decide : (0 : Int) < 10 ^ 60)
    by_cases hc : c = 0
    · have hcb : (c == 0) = true := beq_iff_eq.mpr hc
      obtain ⟨d, j4, h4, d1, d2⟩ := S_take' (C := C) (is := j3) (m := 2) (by decide)
      have hd : d = 0 ∨ d = 1 := by omega
      rcases hd with rfl | rfl
      · refine ⟨10 ^ 59 + y % 1000, j4, ?_, ?_⟩
        · by_cases hx0 : x < 0
          · rw [if_pos hx0] at hy
            subst hy
            simp [mDef, startD, mSeq, mSet, mRet, mRetN, mExpr, mIfS, mNop, mCons, mNil, mOp, mC, mVar, mFrz, mMov, mIf, mTest, mTru, mAnd, mOr, mNot, mAndV, mOrV, mNotV, mInt, viewL, view, isImm, mIt, itemsOf, mLC, mFor, mStr1, mTup, mLst, mCall, takeA, putA, mMeth, insAt, mMake, noBrw, mMut, lstAt, mChain, mFld, objAt, mSetF, mAugF, ioOf, mDic, pairD, mAsg, isSto, wipeL, h1, h2, h3, h4, hx, FM.gSub, gI0, gEq, sc2, deq, hbb, hcb, gIx, atI_zero, atI_one, gInt, gAbs, gMod, gI, gNeg, gMul, gLt, hx0, gPow, gAdd]
          · rw [if_neg hx0] at hy
            subst hy
            simp [mDef, startD, mSeq, mSet, mRet, mRetN, mExpr, mIfS, mNop, mCons, mNil, mOp, mC, mVar, mFrz, mMov, mIf, mTest, mTru, mAnd, mOr, mNot, mAndV, mOrV, mNotV, mInt, viewL, view, isImm, mIt, itemsOf, mLC, mFor, mStr1, mTup, mLst, mCall, takeA, putA, mMeth, insAt, mMake, noBrw, mMut, lstAt, mChain, mFld, objAt, mSetF, mAugF, ioOf, mDic, pairD, mAsg, isSto, wipeL, h1, h2, h3, h4, hx, FM.gSub, gI0, gEq, sc2, deq, hbb, hcb, gIx, atI_zero, atI_one, gInt, gAbs, gMod, gI, gNeg, gMul, gLt, hx0, gPow, gAdd]
        · unfold Sm
          omega
      · refine ⟨-(10 ^ 59 + y % 1000), j4, ?_, ?_⟩
        · by_cases hx0 : x < 0
          · rw [if_pos hx0] at hy
            subst hy
            simp [mDef, startD, mSeq, mSet, mRet, mRetN, mExpr, mIfS, mNop, mCons, mNil, mOp, mC, mVar, mFrz, mMov, mIf, mTest, mTru, mAnd, mOr, mNot, mAndV, mOrV, mNotV, mInt, viewL, view, isImm, mIt, itemsOf, mLC, mFor, mStr1, mTup, mLst, mCall, takeA, putA, mMeth, insAt, mMake, noBrw, mMut, lstAt, mChain, mFld, objAt, mSetF, mAugF, ioOf, mDic, pairD, mAsg, isSto, wipeL, h1, h2, h3, h4, hx, FM.gSub, gI0, gEq, sc2, deq, hbb, hcb, gIx, atI_zero, atI_one, gInt, gAbs, gMod, gI, gNeg, gMul, gLt, hx0, gPow, gAdd]
          · rw [if_neg hx0] at hy
            subst hy
            simp [mDef, startD, mSeq, mSet, mRet, mRetN, mExpr, mIfS, mNop, mCons, mNil, mOp, mC, mVar, mFrz, mMov, mIf, mTest, mTru, mAnd, mOr, mNot, mAndV, mOrV, mNotV, mInt, viewL, view, isImm, mIt, itemsOf, mLC, mFor, mStr1, mTup, mLst, mCall, takeA, putA, mMeth, insAt, mMake, noBrw, mMut, lstAt, mChain, mFld, objAt, mSetF, mAugF, ioOf, mDic, pairD, mAsg, isSto, wipeL, h1, h2, h3, h4, hx, FM.gSub, gI0, gEq, sc2, deq, hbb, hcb, gIx, atI_zero, atI_one, gInt, gAbs, gMod, gI, gNeg, gMul, gLt, hx0, gPow, gAdd]
        · unfold Sm
          omega
    · have hcb : (c == 0) = false := beq_eq_false_iff_ne.mpr hc
      by_cases hx0 : x < 0
      · refine ⟨-(y % 10 ^ 60), j3, ?_, ?_⟩
        · rw [if_pos hx0] at hy
          subst hy
          simp [mDef, startD, mSeq, mSet, mRet, mRetN, mExpr, mIfS, mNop, mCons, mNil, mOp, mC, mVar, mFrz, mMov, mIf, mTest, mTru, mAnd, mOr, mNot, mAndV, mOrV, mNotV, mInt, viewL, view, isImm, mIt, itemsOf, mLC, mFor, mStr1, mTup, mLst, mCall, takeA, putA, mMeth, insAt, mMake, noBrw, mMut, lstAt, mChain, mFld, objAt, mSetF, mAugF, ioOf, mDic, pairD, mAsg, isSto, wipeL, h1, h2, h3, hx, FM.gSub, gI0, gEq, sc2, deq, hbb, hcb, gIx, atI_zero, atI_one, gInt, gAbs, gMod, gI, gNeg, gMul, gLt, hx0, gPow, gAdd]
        · unfold Sm
          omega
      · refine ⟨y % 10 ^ 60, j3, ?_, ?_⟩
        · rw [if_neg hx0] at hy
          subst hy
          simp [mDef, startD, mSeq, mSet, mRet, mRetN, mExpr, mIfS, mNop, mCons, mNil, mOp, mC, mVar, mFrz, mMov, mIf, mTest, mTru, mAnd, mOr, mNot, mAndV, mOrV, mNotV, mInt, viewL, view, isImm, mIt, itemsOf, mLC, mFor, mStr1, mTup, mLst, mCall, takeA, putA, mMeth, insAt, mMake, noBrw, mMut, lstAt, mChain, mFld, objAt, mSetF, mAugF, ioOf, mDic, pairD, mAsg, isSto, wipeL, h1, h2, h3, hx, FM.gSub, gI0, gEq, sc2, deq, hbb, hcb, gIx, atI_zero, atI_one, gInt, gAbs, gMod, gI, gNeg, gMul, gLt, hx0, gPow, gAdd]
        · unfold Sm
          omega
  · have hbb : (b == 2) = false := beq_eq_false_iff_ne.mpr hb
    refine ⟨a - 4, j2, ?_, ?_⟩
    · simp [mDef, startD, mSeq, mSet, mRet, mRetN, mExpr, mIfS, mNop, mCons, mNil, mOp, mC, mVar, mFrz, mMov, mIf, mTest, mTru, mAnd, mOr, mNot, mAndV, mOrV, mNotV, mInt, viewL, view, isImm, mIt, itemsOf, mLC, mFor, mStr1, mTup, mLst, mCall, takeA, putA, mMeth, insAt, mMake, noBrw, mMut, lstAt, mChain, mFld, objAt, mSetF, mAugF, ioOf, mDic, pairD, mAsg, isSto, wipeL, h1, h2, FM.gSub, gI0, gEq, sc2, deq, hbb]
    · unfold Sm
      omega
def Dr (ns : List Int) (n : Nat) (l : FM.Loc) : Prop := ∃ (js : List Int) (m : D), l = [some (.lst (ns.map .int)), some (.own (js.map .int)), some m] ++ List.replicate n none
theorem rng_ev {me : M D} {l l1 : FM.Loc} {m : Nat} (h : me l = .ok (.int (m : Int)) l1) (hm : m ≤ 1000000) : mRng1 me l = .ok (rangeD 0 m) l1 := by
  unfold mRng1
  rw [h]
  dsimp only
  rw [if_pos (by omega), Int.toNat_natCast]
theorem rng_len (m : Nat) : (rangeD 0 m).length = m := by simp [rangeD]
theorem un_all {R : List Int → Prop} : ∀ {ys : List D}, (∀ y ∈ ys, ∃ is : List Int, y = tupI is ∧ R is) → ∃ A : List (List Int), ys = A.map tupI ∧ ∀ is ∈ A, R is
  | [], _ => ⟨[], rfl, fun _ h => by cases h⟩
  | y :: ys, h => by
    obtain ⟨is, rfl, h1⟩ := h y List.mem_cons_self
    obtain ⟨A, rfl, h2⟩ := un_all (ys := ys) fun z hz => h z (List.mem_cons_of_mem _ hz)
    refine ⟨is :: A, rfl, fun z hz => ?_⟩
    rcases List.mem_cons.mp hz with e | e
    · rw [e]
      exact h1
    · exact h2 z e
theorem un_ints {R : Int → Prop} : ∀ {ys : List D}, (∀ y ∈ ys, ∃ i : Int, y = .int i ∧ R i) → ∃ A : List Int, ys = A.map .int ∧ ∀ is ∈ A, R is
  | [], _ => ⟨[], rfl, fun _ h => by cases h⟩
  | y :: ys, h => by
    obtain ⟨is, rfl, h1⟩ := h y List.mem_cons_self
    obtain ⟨A, rfl, h2⟩ := un_ints (ys := ys) fun z hz => h z (List.mem_cons_of_mem _ hz)
    refine ⟨is :: A, rfl, fun z hz => ?_⟩
    rcases List.mem_cons.mp hz with e | e
    · rw [e]
      exact h1
    · exact h2 z e
/-- numbers, all small, m of them -/
def Nums (m : Nat) (is : List Int) : Prop := is.length = m ∧ ∀ i ∈ is, Sm i
theorem S_some {ns js : List Int} {m : Nat} (hm : m ≤ 1000) : ∃ (is : List Int) (ks : List Int), F__law_some_numbers C [.lst (ns.map .int), .own (js.map .int), .int m] = .ok (tupI is) [.own (ks.map .int)] ∧ Nums m is := by
  obtain ⟨ys, l', h1, h2, h3, h4⟩ := lc_inv (v := 3) (te := mCall [false, true] (F__law_any_number C) (mCons (mVar 0) (mCons (mVar 1) mNil)))
    (P := fun l => ∃ ks : List Int, l = [some (.lst (ns.map .int)), some (.own (ks.map .int)), some (.int (m : Int)), none]) (R := fun y => ∃ i, y = .int i ∧ Sm i)
    (ds := rangeD 0 m) (acc := []) (l := [some (.lst (ns.map .int)), some (.own (js.map .int)), some (.int (m : Int)), none]) ⟨js, rfl⟩ (by
      intro d hd l ⟨ks, hl⟩
      subst hl
      obtain ⟨i, k2, e, hs⟩ := S_any (C := C) (ns := ns) (is := ks)
      refine ⟨.int i, [some (.lst (ns.map .int)), some (.own (k2.map .int)), some (.int (m : Int)), some d], ?_, rfl, ⟨i, rfl, hs⟩, k2, rfl⟩
      simp [mDef, startD, mSeq, mSet, mRet, mRetN, mExpr, mIfS, mNop, mCons, mNil, mOp, mC, mVar, mFrz, mMov, mIf, mTest, mTru, mAnd, mOr, mNot, mAndV, mOrV, mNotV, mInt, viewL, view, isImm, mIt, itemsOf, mLC, mFor, mStr1, mTup, mLst, mCall, takeA, putA, mMeth, insAt, mMake, noBrw, mMut, lstAt, mChain, mFld, objAt, mSetF, mAugF, ioOf, mDic, pairD, mAsg, isSto, wipeL, e]) (by rw [rng_len]; simp; omega)
  obtain ⟨ks, rfl⟩ := h2
  obtain ⟨is, rfl, h5⟩ := un_ints h4
  refine ⟨is, ks, ?_, ?_, h5⟩
  · unfold F__law_some_numbers m__law_some_numbers
    have hr := rng_ev (me := mVar 2) (l := [some (.lst (ns.map .int)), some (.own (js.map .int)), some (.int (m : Int)), none]) (m := m) rfl (by omega)
    simp only [List.nil_append] at h1
    simp [mDef, startD, mSeq, mSet, mRet, mRetN, mExpr, mIfS, mNop, mCons, mNil, mOp, mC, mVar, mFrz, mMov, mIf, mTest, mTru, mAnd, mOr, mNot, mAndV, mOrV, mNotV, mInt, viewL, view, isImm, mIt, itemsOf, mLC, mFor, mStr1, mTup, mLst, mCall, takeA, putA, mMeth, insAt, mMake, noBrw, mMut, lstAt, mChain, mFld, objAt, mSetF, mAugF, ioOf, mDic, pairD, mAsg, isSto, wipeL, hr, h1, gTuple, tupI]
  · rw [rng_len, List.length_map] at h3
    exact h3
theorem nat_of {i m : Int} (h0 : 0 ≤ i) (h1 : i < m) : ∃ n : Nat, i = n ∧ (n : Int) < m := ⟨i.toNat, by omega, by omega⟩
def Keys (A : List (List Int)) : Prop := ∀ is ∈ A, is.length ≤ 4 ∧ ∀ i ∈ is, Sm i
theorem S_tuples {ns js : List Int} {m : Nat} (hm : m ≤ 1000) : ∃ (A : List (List Int)) (ks : List Int), F__law_tuples C [.lst (ns.map .int), .own (js.map .int), .int m] = .ok (.tup (A.map tupI)) [.own (ks.map .int)] ∧ A.length = m ∧ Keys A := by
  obtain ⟨ys, l', h1, h2, h3, h4⟩ := lc_inv (v := 3) (te := mCall [false, true, false] (F__law_some_numbers C) (mCons (mVar 0) (mCons (mVar 1) (mCons (mCall [true, false] (F__law_take C) (mCons (mVar 1) (mCons (mC (.int 5)) mNil))) mNil))))
    (P := fun l => ∃ ks : List Int, l = [some (.lst (ns.map .int)), some (.own (ks.map .int)), some (.int (m : Int)), none]) (R := fun y => ∃ is, y = tupI is ∧ (is.length ≤ 4 ∧ ∀ i ∈ is, Sm i))
    (ds := rangeD 0 m) (acc := []) (l := [some (.lst (ns.map .int)), some (.own (js.map .int)), some (.int (m : Int)), none]) ⟨js, rfl⟩ (by
      intro d hd l ⟨ks, hl⟩
      subst hl
      obtain ⟨a, k1, e1, a1, a2⟩ := S_take' (C := C) (is := ks) (m := 5) (by decide)
      obtain ⟨n, rfl, hn⟩ := nat_of a1 a2
      obtain ⟨is, k2, e, hs⟩ := S_some (C := C) (ns := ns) (js := k1) (m := n) (by omega)
      refine ⟨tupI is, [some (.lst (ns.map .int)), some (.own (k2.map .int)), some (.int (m : Int)), some d], ?_, rfl, ⟨is, rfl, ?_, hs.2⟩, k2, rfl⟩
      · simp [mDef, startD, mSeq, mSet, mRet, mRetN, mExpr, mIfS, mNop, mCons, mNil, mOp, mC, mVar, mFrz, mMov, mIf, mTest, mTru, mAnd, mOr, mNot, mAndV, mOrV, mNotV, mInt, viewL, view, isImm, mIt, itemsOf, mLC, mFor, mStr1, mTup, mLst, mCall, takeA, putA, mMeth, insAt, mMake, noBrw, mMut, lstAt, mChain, mFld, objAt, mSetF, mAugF, ioOf, mDic, pairD, mAsg, isSto, wipeL, e1, e]
      · have := hs.1
        omega) (by rw [rng_len]; simp; omega)
  obtain ⟨ks, rfl⟩ := h2
  obtain ⟨is, rfl, h5⟩ := un_all h4
  refine ⟨is, ks, ?_, ?_, h5⟩
  · unfold F__law_tuples m__law_tuples
    have hr := rng_ev (me := mVar 2) (l := [some (.lst (ns.map .int)), some (.own (js.map .int)), some (.int (m : Int)), none]) (m := m) rfl (by omega)
    simp only [List.nil_append] at h1
    simp [mDef, startD, mSeq, mSet, mRet, mRetN, mExpr, mIfS, mNop, mCons, mNil, mOp, mC, mVar, mFrz, mMov, mIf, mTest, mTru, mAnd, mOr, mNot, mAndV, mOrV, mNotV, mInt, viewL, view, isImm, mIt, itemsOf, mLC, mFor, mStr1, mTup, mLst, mCall, takeA, putA, mMeth, insAt, mMake, noBrw, mMut, lstAt, mChain, mFld, objAt, mSetF, mAugF, ioOf, mDic, pairD, mAsg, isSto, wipeL, hr, h1, gTuple]
  · rw [rng_len, List.length_map] at h3
    exact h3
end K84

set_option maxHeartbeats 1000000
namespace K84
open FM L2
open PySem (Str Addr)
variable {C : Addr}
/-! ### the same -/
def SameN (C : Addr) (n : Nat) (d : D) : Prop := ∀ m, n ≤ m → R__law_same C m [d, d] = .ok (.bl true) []
theorem SameN.mono {n k : Nat} {d : D} (h : SameN C n d) (hk : n ≤ k) : SameN C k d := fun m hm => h m (Nat.le_trans hk hm)
theorem same_int (i : Int) : SameN C 1 (.int i) := fun m hm => by
  obtain ⟨m, rfl⟩ : ∃ k, m = k + 1 := ⟨m - 1, by omega⟩
  unfold R__law_same m__law_same
  simp [mDef, startD, mSeq, mSet, mRet, mRetN, mExpr, mIfS, mNop, mCons, mNil, mOp, mC, mVar, mFrz, mMov, mIf, mTest, mTru, mAnd, mOr, mNot, mAndV, mOrV, mNotV, mInt, viewL, view, isImm, mIt, itemsOf, mLC, mFor, mStr1, mTup, mLst, mCall, takeA, putA, mMeth, insAt, mMake, noBrw, mMut, lstAt, mChain, mFld, objAt, mSetF, mAugF, ioOf, mDic, pairD, mAsg, isSto, wipeL, gIsN, FM.isNon, gIsi, tyOf, isiB, gTru, gEq, sc2, deq]
theorem same_str (i : List Nat) : SameN C 1 (.str i) := fun m hm => by
  obtain ⟨m, rfl⟩ : ∃ k, m = k + 1 := ⟨m - 1, by omega⟩
  unfold R__law_same m__law_same
  simp [mDef, startD, mSeq, mSet, mRet, mRetN, mExpr, mIfS, mNop, mCons, mNil, mOp, mC, mVar, mFrz, mMov, mIf, mTest, mTru, mAnd, mOr, mNot, mAndV, mOrV, mNotV, mInt, viewL, view, isImm, mIt, itemsOf, mLC, mFor, mStr1, mTup, mLst, mCall, takeA, putA, mMeth, insAt, mMake, noBrw, mMut, lstAt, mChain, mFld, objAt, mSetF, mAugF, ioOf, mDic, pairD, mAsg, isSto, wipeL, gIsN, FM.isNon, gIsi, tyOf, isiB, gTru, gEq, sc2, deq]
theorem get_item {ds : List D} {i : Nat} (h : i < ds.length) : atI ds (i : Int) = some ds[i] := by
  unfold atI ixN
  rw [if_pos (by omega), if_pos (by omega)]
  simp [h]
theorem same_tup {n : Nat} {ds : List D} (hl : ds.length ≤ 1000000) (h : ∀ d ∈ ds, SameN C n d) : SameN C (n + 1) (.tup ds) := fun m hm => by
  obtain ⟨m, rfl⟩ : ∃ k, m = k + 1 := ⟨m - 1, by omega⟩
  obtain ⟨l', e1, x, e2⟩ := for_inv (t := gN 2) (b := mIfS (mNot (mTru (mCall [false, false] (R__law_same C m) (mCons (mOp gIx (mCons (mVar 0) (mCons (mVar 2) mNil))) (mCons (mOp gIx (mCons (mVar 1) (mCons (mVar 2) mNil))) (mNil)))))) (mRet (mC (.bl false))) (mNop))
    (P := fun rest l => ∃ x, l = [some (.tup ds), some (.tup ds), x] ∧ ∀ d ∈ rest, ∃ y ∈ ds, ∃ k : Int, d = .int k ∧ atI ds k = some y) (by
      intro d rest l ⟨x, hl, hr⟩
      subst hl
      obtain ⟨y, hy, k, rfl, hk⟩ := hr d List.mem_cons_self
      refine ⟨[some (.tup ds), some (.tup ds), some (.int k)], [some (.tup ds), some (.tup ds), some (.int k)], rfl, ?_, _, rfl, fun z hz => hr z (List.mem_cons_of_mem _ hz)⟩
      have hs := h y hy m (by omega)
      have hb : ∀ i, y ≠ .brw i := fun i e => by
        subst e
        have := hs
        obtain ⟨m', rfl⟩ | rfl : (∃ m', m = m' + 1) ∨ m = 0 := by
          cases m with
          | zero => exact .inr rfl
          | succ m' => exact .inl ⟨m', rfl⟩
        · unfold R__law_same m__law_same at this
          simp [mDef, startD, mSeq, mSet, mRet, mRetN, mExpr, mIfS, mNop, mCons, mNil, mOp, mC, mVar, mFrz, mMov, mIf, mTest, mTru, mAnd, mOr, mNot, mAndV, mOrV, mNotV, mInt, viewL, view, isImm, mIt, itemsOf, mLC, mFor, mStr1, mTup, mLst, mCall, takeA, putA, mMeth, insAt, mMake, noBrw, mMut, lstAt, mChain, mFld, objAt, mSetF, mAugF, ioOf, mDic, pairD, mAsg, isSto, wipeL, gIsN, FM.isNon, gIsi, tyOf, gTru] at this
        · cases this
      simp only [mDef, startD, mSeq, mSet, mRet, mRetN, mExpr, mIfS, mNop, mCons, mNil, mOp, mC, mVar, mFrz, mMov, mIf, mTest, mTru, mAnd, mOr, mNot, mAndV, mOrV, mNotV, mInt, viewL, view, isImm, mIt, itemsOf, mLC, mFor, mStr1, mTup, mLst, mCall, takeA, putA, mMeth, insAt, mMake, noBrw, mMut, lstAt, mChain, mFld, objAt, mSetF, mAugF, ioOf, mDic, pairD, mAsg, isSto, wipeL, gIx, hk, List.getElem?_cons_zero, List.getElem?_cons_succ, if_true, Option.bind_some]
      simp [hs, putA, view, gTru])
    (ds := rangeD 0 ds.length) (l := [some (.tup ds), some (.tup ds), none]) ⟨none, rfl, by
      intro d hd
      obtain ⟨i, hi, rfl⟩ := List.mem_map.mp hd
      rw [List.mem_range] at hi
      refine ⟨ds[i], List.getElem_mem hi, (0 : Int) + (i : Nat), rfl, ?_⟩
      rw [Int.zero_add]
      exact get_item hi⟩
  obtain ⟨e2, _⟩ := e2
  have hr := rng_ev (me := mOp gLen (mCons (mVar 1) mNil)) (l := [some (.tup ds), some (.tup ds), none]) (m := ds.length) rfl hl
  unfold R__law_same m__law_same
  subst e2
  simp only [mDef, startD, mSeq, mSet, mRet, mRetN, mExpr, mIfS, mNop, mCons, mNil, mOp, mC, mVar, mFrz, mMov, mIf, mTest, mTru, mAnd, mOr, mNot, mAndV, mOrV, mNotV, mInt, viewL, view, isImm, mIt, itemsOf, mLC, mFor, mStr1, mTup, mLst, mCall, takeA, putA, mMeth, insAt, mMake, noBrw, mMut, lstAt, mChain, mFld, objAt, mSetF, mAugF, ioOf, mDic, pairD, mAsg, isSto, wipeL, gIsN, FM.isNon, gIsi, tyOf, isiB, gTru, List.map_cons, List.map_nil, List.length_cons, List.length_nil, List.cons_append, List.nil_append, hr]
  simp [mDef, startD, mSeq, mSet, mRet, mRetN, mExpr, mIfS, mNop, mCons, mNil, mOp, mC, mVar, mFrz, mMov, mIf, mTest, mTru, mAnd, mOr, mNot, mAndV, mOrV, mNotV, mInt, viewL, view, isImm, mIt, itemsOf, mLC, mFor, mStr1, mTup, mLst, mCall, takeA, putA, mMeth, insAt, mMake, noBrw, mMut, lstAt, mChain, mFld, objAt, mSetF, mAugF, ioOf, mDic, pairD, mAsg, isSto, wipeL, gIsN, FM.isNon, gIsi, tyOf, isiB, gTru, gLen, gNe, sc2, deq, hr, e1]
theorem same_tupI {is : List Int} (h : is.length ≤ 1000) : SameN C 2 (tupI is) := same_tup (by simp; omega) fun d hd => by
  obtain ⟨i, _, rfl⟩ := List.mem_map.mp hd
  exact same_int i
theorem same_keys {A : List (List Int)} (h : A.length ≤ 1000) (hk : ∀ is ∈ A, is.length ≤ 1000) : SameN C 3 (.tup (A.map tupI)) := same_tup (by simp; omega) fun d hd => by
  obtain ⟨i, hi, rfl⟩ := List.mem_map.mp hd
  exact same_tupI (hk i hi)
theorem mem2 {α : Type} {a b d : α} (h : d ∈ [a, b]) : d = a ∨ d = b := by simpa using h
theorem S_same_str (l : List Nat) : F__law_same C [.str l, .str l] = .ok (.bl true) [] := same_str l 7 (by omega)
/-! ### the lines of a value -/
theorem S_joined {R : List Row} (h : Ok R) (hn : R.length ≤ 800) : F__law_joined C [.lst (R.map (D.str ∘ lineT))] = .ok (.str (txt R)) [] := by
  have e := lc_map (v := 1) (l := [some (.lst (R.map (D.str ∘ lineT))), none]) (te := mOp gAdd (mCons (mVar 1) (mCons (mC (.str [10])) mNil))) (f := fun d => match d with | .str l => .str (l ++ [10]) | d => d) rfl (ds := R.map (D.str ∘ lineT)) (acc := []) (by
    intro d hd
    obtain ⟨r, hr, rfl⟩ := List.mem_map.mp hd
    have := rowT_len (h r hr)
    simp [mDef, startD, mSeq, mSet, mRet, mRetN, mExpr, mIfS, mNop, mCons, mNil, mOp, mC, mVar, mFrz, mMov, mIf, mTest, mTru, mAnd, mOr, mNot, mAndV, mOrV, mNotV, mInt, viewL, view, isImm, mIt, itemsOf, mLC, mFor, mStr1, mTup, mLst, mCall, takeA, putA, mMeth, insAt, mMake, noBrw, mMut, lstAt, mChain, mFld, objAt, mSetF, mAugF, ioOf, mDic, pairD, mAsg, isSto, wipeL, gAdd, (by unfold lineT; omega : (lineT r).length + 1 ≤ 16777216)]) (by simp; omega)
  have e2 : (R.map (D.str ∘ lineT)).map (fun d => match d with | .str l => D.str (l ++ [10]) | d => d) = R.map (D.str ∘ fun r => lineT r ++ [10]) := by
    rw [List.map_map]
    rfl
  rw [e2] at e
  have hj := join_flat (f := fun r => lineT r ++ [10]) (A := R) 19001 (fun r hr => by
    have := rowT_len (h r hr)
    rw [List.length_append, List.length_singleton]
    unfold lineT
    omega) (by omega)
  unfold F__law_joined m__law_joined
  simp only [List.nil_append] at e
  simp [mDef, startD, mSeq, mSet, mRet, mRetN, mExpr, mIfS, mNop, mCons, mNil, mOp, mC, mVar, mFrz, mMov, mIf, mTest, mTru, mAnd, mOr, mNot, mAndV, mOrV, mNotV, mInt, viewL, view, isImm, mIt, itemsOf, mLC, mFor, mStr1, mTup, mLst, mCall, takeA, putA, mMeth, insAt, mMake, noBrw, mMut, lstAt, mChain, mFld, objAt, mSetF, mAugF, ioOf, mDic, pairD, mAsg, isSto, wipeL, e, hj, txt]
theorem rows_app (R S : List Row) : (R ++ S).map (D.str ∘ lineT) = R.map (D.str ∘ lineT) ++ S.map (D.str ∘ lineT) := List.map_append
theorem rows_rws (w : List Nat) (A : List (List Int)) : (rws w A).map (D.str ∘ lineT) = A.map (D.str ∘ fun is => lineT (w, is)) := by
  unfold rws
  rw [List.map_map]
  rfl
end K84

set_option maxHeartbeats 1000000
namespace K84
open FM L2
open PySem (Str Addr)
variable {C : Addr}
theorem row_line {is : List Int} (h : is.length ≤ 300 ∧ ∀ i ∈ is, Sm i) {w : List Nat} (hw : (w.length ≤ 20 ∧ 10 ∉ w ∧ 32 ∉ w)) : RowOk w is := ⟨hw, h⟩
theorem ok_keys {A : List (List Int)} (h : Keys A) {w : List Nat} (hw : (w.length ≤ 20 ∧ 10 ∉ w ∧ 32 ∉ w)) : Ok (rws w A) := ok_rws.mpr fun is hi => ⟨hw, by have := (h is hi).1; omega, (h is hi).2⟩
theorem rep_map {α β : Type} (f : α → β) (m : Nat) (l : List α) : (List.replicate m (l.map f)).flatten = ((List.replicate m l).flatten).map f := by
  rw [List.map_flatten, List.map_replicate]
theorem rep_mem {α : Type} {m : Nat} {l : List α} {a : α} (h : a ∈ (List.replicate m l).flatten) : a ∈ l := by
  obtain ⟨x, hx, ha⟩ := List.mem_flatten.mp h
  rw [List.eq_of_mem_replicate hx] at ha
  exact ha
theorem rep_len {α : Type} (m : Nat) (l : List α) : (List.replicate m l).flatten.length = m * l.length := by simp
/-! ### the draws -/
theorem ixN_mod {n : Nat} (h : 0 < n) (j : Int) : ixN n (j % (n : Int)) = some (j % (n : Int)).toNat := by
  have a := Int.emod_nonneg j (by omega : (n : Int) ≠ 0)
  have b := Int.emod_lt_of_pos j (by omega : 0 < (n : Int))
  unfold ixN
  rw [if_pos a, if_pos b]
theorem S_draws {ns : List Int} (hn : ns.length ≤ 1000) {m : Nat} (hm : m ≤ 1000) : ∃ js : List Int, F__law_draws C [.lst (ns.map .int), .int (m : Int)] = .ok (.own (js.map .int)) [] := by
  have e0 := lc_map (v := 8) (l := [some (.lst (ns.map .int)), some (.int (m : Int)), none, none, none, none, none, none, none]) (te := mOp gInt (mCons (mVar 8) mNil)) (f := id) rfl (ds := ns.map .int) (acc := []) (by
    intro d hd
    obtain ⟨i, hi, rfl⟩ := List.mem_map.mp hd
    simp [mDef, startD, mSeq, mSet, mRet, mRetN, mExpr, mIfS, mNop, mCons, mNil, mOp, mC, mVar, mFrz, mMov, mIf, mTest, mTru, mAnd, mOr, mNot, mAndV, mOrV, mNotV, mInt, viewL, view, isImm, mIt, itemsOf, mLC, mFor, mStr1, mTup, mLst, mCall, takeA, putA, mMeth, insAt, mMake, noBrw, mMut, lstAt, mChain, mFld, objAt, mSetF, mAugF, ioOf, mDic, pairD, mAsg, isSto, wipeL, gInt]) (by simp; omega)
  rw [List.map_id, List.nil_append] at e0
  obtain ⟨cs, hcs, hne⟩ : ∃ cs : List Int, cs = (if ns = [] then [0] else ns) ∧ cs ≠ [] := by
    refine ⟨_, rfl, ?_⟩
    split <;> simp_all
  have hp : 0 < cs.length := List.length_pos_iff.mpr hne
  have hpz : (0 : Int) < (cs.length : Int) := by omega
  obtain ⟨l', e1, js, rs, x, y, z, _, _, _, e2⟩ := for_inv (t := gN 5) (b := mSeq (mSet 6 (mOp gMod (mCons (mVar 5) (mCons (mOp gLen (mCons (mVar 2) (mNil))) mNil)))) (mIfS (mTest (mOp gGe (mCons (mOp gIx (mCons (mVar 2) (mCons (mVar 6) mNil))) (mCons (mOp gPow (mCons (mC (.int 10)) (mCons (mC (.int 18)) mNil))) mNil)))) (mSeq (mExpr (mMut 4 gApp (mCons (mOp gMod (mCons (mOp gInt (mCons (mOp gIx (mCons (mVar 3) (mCons (mVar 6) mNil))) (mNil))) (mCons (mC (.int 1000)) mNil))) (mNil)))) (mSetIx 3 (mVar 6) (mOp gFdiv (mCons (mOp gIx (mCons (mVar 3) (mCons (mVar 6) mNil))) (mCons (mC (.int 1000)) mNil))))) (mSeq (mSet 7 (mOp gMod (mCons (mOp gInt (mCons (mOp gAdd (mCons (mOp gAdd (mCons (mOp gMul (mCons (mOp gIx (mCons (mVar 2) (mCons (mVar 6) mNil))) (mCons (mC (.int 48271)) mNil))) (mCons (mOp gMul (mCons (mVar 5) (mCons (mC (.int 69621)) mNil))) mNil))) (mCons (mC (.int 11)) mNil))) (mNil))) (mCons (mC (.int 2147483647)) mNil)))) (mExpr (mMut 4 gApp (mCons (mOp gMod (mCons (mOp gInt (mCons (mOp gAdd (mCons (mOp gAdd (mCons (mOp gMul (mCons (mVar 7) (mCons (mVar 7) mNil))) (mCons (mOp gMul (mCons (mC (.int 3)) (mCons (mVar 7) mNil))) mNil))) (mCons (mVar 5) mNil))) (mNil))) (mCons (mC (.int 1000003)) mNil))) (mNil)))))))
    (P := fun rest l => ∃ (js rs : List Int) (x y z : Option D), rs.length = cs.length ∧ js.length + rest.length ≤ 1000 ∧ (∀ d ∈ rest, ∃ k : Int, d = .int k) ∧ l = [some (.lst (ns.map .int)), some (.int (m : Int)), some (.own (cs.map .int)), some (.own (rs.map .int)), some (.own (js.map .int)), x, y, z, none]) (by
      intro d rest l ⟨js, rs, x, y, z, h1, h2, h3, h4⟩
      subst h4
      obtain ⟨k, rfl⟩ := h3 d List.mem_cons_self
      obtain ⟨c, hc⟩ := atI_mod_int hne k
      obtain ⟨r, hrr⟩ := atI_mod_int (l := rs) (by intro e; rw [e] at h1; simp at h1; omega) k
      rw [h1] at hrr
      rw [List.length_cons] at h2
      have hix := ixN_mod hp k
      have hjs : js.length < 16777216 := by omega
      by_cases hb : (10 : Int) ^ 18 ≤ c
      · have hb' : decide ((1000000000000000000 : Int) ≤ c) = true := decide_eq_true hb
        refine ⟨_, [some (.lst (ns.map .int)), some (.int (m : Int)), some (.own (cs.map .int)), some (.own ((rs.set (k % (cs.length : Int)).toNat (r / 1000)).map .int)), some (.own ((js ++ [r % 1000]).map .int)), some (.int k), some (.int (k % (cs.length : Int))), z, none], rfl, ?_, js ++ [r % 1000], rs.set (k % (cs.length : Int)).toNat (r / 1000), _, _, _, by rw [List.length_set, h1], by rw [List.length_append, List.length_singleton]; omega, fun d hd => h3 d (List.mem_cons_of_mem _ hd), rfl⟩
        simp [mDef, startD, mSeq, mSet, mRet, mRetN, mExpr, mIfS, mNop, mCons, mNil, mOp, mC, mVar, mFrz, mMov, mIf, mTest, mTru, mAnd, mOr, mNot, mAndV, mOrV, mNotV, mInt, viewL, view, isImm, mIt, itemsOf, mLC, mFor, mStr1, mTup, mLst, mCall, takeA, putA, mMeth, insAt, mMake, noBrw, mMut, lstAt, mChain, mFld, objAt, mSetF, mAugF, ioOf, mDic, pairD, mAsg, isSto, wipeL, mSetIx, gMod, gI, gI0, gLen, hpz, hp, gIx, hc, hrr, gGe, gPow, hb', gInt, gApp, hjs, FM.gFdiv, h1, hix]
      · have hb' : decide ((1000000000000000000 : Int) ≤ c) = false := decide_eq_false hb
        have q1 : -18446744073709551616 < (c * 48271 + k * 69621 + 11) % 2147483647 := by omega
        have q2 : (c * 48271 + k * 69621 + 11) % 2147483647 < 18446744073709551616 := by omega
        generalize hE : (c * 48271 + k * 69621 + 11) % 2147483647 = E at q1 q2
        refine ⟨_, [some (.lst (ns.map .int)), some (.int (m : Int)), some (.own (cs.map .int)), some (.own (rs.map .int)), some (.own ((js ++ [(E * E + 3 * E + k) % 1000003]).map .int)), some (.int k), some (.int (k % (cs.length : Int))), some (.int E), none], rfl, ?_, js ++ [(E * E + 3 * E + k) % 1000003], rs, _, _, _, h1, by rw [List.length_append, List.length_singleton]; omega, fun d hd => h3 d (List.mem_cons_of_mem _ hd), rfl⟩
        simp [mDef, startD, mSeq, mSet, mRet, mRetN, mExpr, mIfS, mNop, mCons, mNil, mOp, mC, mVar, mFrz, mMov, mIf, mTest, mTru, mAnd, mOr, mNot, mAndV, mOrV, mNotV, mInt, viewL, view, isImm, mIt, itemsOf, mLC, mFor, mStr1, mTup, mLst, mCall, takeA, putA, mMeth, insAt, mMake, noBrw, mMut, lstAt, mChain, mFld, objAt, mSetF, mAugF, ioOf, mDic, pairD, mAsg, isSto, wipeL, mSetIx, gMod, gI, gI0, gLen, hpz, hp, gIx, hc, hrr, gGe, gPow, hb', gInt, gApp, hjs, gAdd, gMul, hE, q1, q2])
    (ds := rangeD 0 m) (l := [some (.lst (ns.map .int)), some (.int (m : Int)), some (.own (cs.map .int)), some (.own (cs.map .int)), some (.own []), none, none, none, none]) ⟨[], cs, none, none, none, rfl, by rw [rng_len]; simp; omega, fun d hd => by
      obtain ⟨i, hi, rfl⟩ := List.mem_map.mp hd
      exact ⟨_, rfl⟩, rfl⟩
  subst e2
  refine ⟨js.reverse, ?_⟩
  have hr := rng_ev (me := mVar 1) (l := [some (.lst (ns.map .int)), some (.int (m : Int)), some (.own (cs.map .int)), some (.own (cs.map .int)), some (.own []), none, none, none, none]) (m := m) rfl (by omega)
  unfold F__law_draws m__law_draws
  by_cases h0 : ns = []
  · subst h0
    rw [if_pos rfl] at hcs
    subst hcs
    simp at e0 e1 hr
    simp [mDef, startD, mSeq, mSet, mRet, mRetN, mExpr, mIfS, mNop, mCons, mNil, mOp, mC, mVar, mFrz, mMov, mIf, mTest, mTru, mAnd, mOr, mNot, mAndV, mOrV, mNotV, mInt, viewL, view, isImm, mIt, itemsOf, mLC, mFor, mStr1, mTup, mLst, mCall, takeA, putA, mMeth, insAt, mMake, noBrw, mMut, lstAt, mChain, mFld, objAt, mSetF, mAugF, ioOf, mDic, pairD, mAsg, isSto, wipeL, e0, gLen, gEq, sc2, deq, gApp, gList, hr, e1, gRev]
  · rw [if_neg h0] at hcs
    subst hcs
    have hz : ((cs.length : Int) == 0) = false := by
      simp
      exact h0
    simp [mDef, startD, mSeq, mSet, mRet, mRetN, mExpr, mIfS, mNop, mCons, mNil, mOp, mC, mVar, mFrz, mMov, mIf, mTest, mTru, mAnd, mOr, mNot, mAndV, mOrV, mNotV, mInt, viewL, view, isImm, mIt, itemsOf, mLC, mFor, mStr1, mTup, mLst, mCall, takeA, putA, mMeth, insAt, mMake, noBrw, mMut, lstAt, mChain, mFld, objAt, mSetF, mAugF, ioOf, mDic, pairD, mAsg, isSto, wipeL, e0, gLen, gEq, sc2, deq, hz, gApp, gList, hr, e1, gRev]
theorem seq_nx {a b : MS} {l l1 : FM.Loc} (h : a l = .nx l1) : mSeq a b l = b l1 := by
  unfold mSeq
  rw [h]
theorem for_nx {ms : M (List D)} {t : MG} {b : MS} {ds : List D} {l l1 l2 : FM.Loc} (h : ms l = .ok ds l1) (h2 : loopF t b ds l1 = .nx l2) : mFor ms t b l = .nx l2 := by
  unfold mFor
  rw [h]
  exact h2
theorem def_rt {n : Nat} {fl : List Bool} {mb : MS} {ds : List D} {d : D} {l : FM.Loc} {io : List D} (h : mb (startD n ds) = .rt d l) (hi : ioOf fl l = some io) : mDef n fl mb ds = .ok d io := by
  unfold mDef
  rw [h]
  dsimp only
  rw [hi]
theorem cut01_40 {α : Type} (xs : List α) : cutD xs none (some 40) = xs.take 40 := cut01 xs 40
theorem cut10_40 {α : Type} (xs : List α) : cutD xs (some 40) none = xs.drop 40 := cut10 xs 40
theorem sm_small {i : Int} (h : i.natAbs < 1000) : Sm i := by
  unfold Sm
  omega
end K84

set_option maxHeartbeats 1000000
namespace K84
open FM L2
open PySem (Str Addr)
variable {C : Addr}
abbrev wLine : List Nat := [108, 105, 110, 101]
abbrev wKey : List Nat := [107, 101, 121]
abbrev wLock : List Nat := [108, 111, 99, 107]
abbrev wCham : List Nat := [99, 104, 97, 109, 98, 101, 114]
abbrev wPing : List Nat := [112, 105, 110, 110, 105, 110, 103]
abbrev wPlaces : List Nat := [112, 108, 97, 99, 101, 115]
abbrev wPin : List Nat := [112, 105, 110, 110, 105, 110, 103, 115]
abbrev wTries : List Nat := [116, 114, 105, 101, 115]
theorem keys_short {A : List (List Int)} (h : Keys A) : ∀ is ∈ A, is.length ≤ 10 := fun is hi => by have := (h is hi).1; omega
theorem rws_short {w : List Nat} {A : List (List Int)} (h : Keys A) : ∀ r ∈ rws w A, r.2.length ≤ 10 := fun r hr => by
  obtain ⟨is, hi, rfl⟩ := List.mem_map.mp hr
  exact keys_short h is hi
theorem txt_flat' {α : Type} (f : α → List Row) : ∀ A : List α, txt (A.map f).flatten = (A.map fun a => txt (f a)).flatten
  | [] => rfl
  | a :: A => by rw [List.map_cons, List.flatten_cons, txt_app, txt_flat' f A, List.map_cons, List.flatten_cons]
/-! ### locks -/
def lockR (lk : List (List Int)) : List Row := (wLock, []) :: rws wCham lk
def locksR (L : List (List (List Int))) : List Row := (L.map lockR).flatten
def lockD (lk : List (List Int)) : D := .tup (lk.map tupI)
def unL : D → List (List Int)
  | .tup l => l.map unI
  | _ => []
theorem un_lockD (lk : List (List Int)) : unL (lockD lk) = lk := by
  simp [unL, lockD, Function.comp_def, un_tupI]
theorem txt_flat (L : List (List (List Int))) : txt (locksR L) = (L.map fun lk => txt (lockR lk)).flatten := by
  unfold locksR
  induction L with
  | nil => rfl
  | cons a L ih => rw [List.map_cons, List.flatten_cons, txt_app, ih, List.map_cons, List.flatten_cons]
theorem ok_locks {L : List (List (List Int))} (h : Ok (locksR L)) : ∀ lk ∈ L, Ok (lockR lk) := fun lk hl r hr => h r (List.mem_flatten.mpr ⟨_, List.mem_map_of_mem hl, hr⟩)
def Locks (L : List (List (List Int))) : Prop := ∀ lk ∈ L, lk.length ≤ 4 ∧ Keys lk
theorem un_locks {R : List (List Int) → Prop} : ∀ {ys : List D}, (∀ y ∈ ys, ∃ is : List (List Int), y = lockD is ∧ R is) → ∃ A : List (List (List Int)), ys = A.map lockD ∧ ∀ is ∈ A, R is
  | [], _ => ⟨[], rfl, fun _ h => by cases h⟩
  | y :: ys, h => by
    obtain ⟨is, rfl, h1⟩ := h y List.mem_cons_self
    obtain ⟨A, rfl, h2⟩ := un_locks (ys := ys) fun z hz => h z (List.mem_cons_of_mem _ hz)
    refine ⟨is :: A, rfl, fun z hz => ?_⟩
    rcases List.mem_cons.mp hz with e | e
    · rw [e]
      exact h1
    · exact h2 z e
theorem S_any_locks {ns js : List Int} {m : Nat} (hm : m ≤ 1000) : ∃ (A : List (List (List Int))) (ks : List Int), F__law_any_locks C [.lst (ns.map .int), .own (js.map .int), .int m] = .ok (.tup (A.map lockD)) [.own (ks.map .int)] ∧ A.length = m ∧ Locks A := by
  obtain ⟨ys, l', h1, h2, h3, h4⟩ := lc_inv (v := 3) (te := mCall [false, true, false] (F__law_tuples C) (mCons (mVar 0) (mCons (mVar 1) (mCons (mCall [true, false] (F__law_take C) (mCons (mVar 1) (mCons (mC (.int 4)) mNil))) mNil))))
    (P := fun l => ∃ ks : List Int, l = [some (.lst (ns.map .int)), some (.own (ks.map .int)), some (.int (m : Int)), none]) (R := fun y => ∃ is, y = lockD is ∧ (is.length ≤ 4 ∧ Keys is))
    (ds := rangeD 0 m) (acc := []) (l := [some (.lst (ns.map .int)), some (.own (js.map .int)), some (.int (m : Int)), none]) ⟨js, rfl⟩ (by
      intro d hd l ⟨ks, hl⟩
      subst hl
      obtain ⟨a, k1, e1, a1, a2⟩ := S_take' (C := C) (is := ks) (m := 4) (by decide)
      obtain ⟨n, rfl, hn⟩ := nat_of a1 a2
      obtain ⟨is, k2, e, hl, hs⟩ := S_tuples (C := C) (ns := ns) (js := k1) (m := n) (by omega)
      refine ⟨lockD is, [some (.lst (ns.map .int)), some (.own (k2.map .int)), some (.int (m : Int)), some d], ?_, rfl, ⟨is, rfl, by omega, hs⟩, k2, rfl⟩
      simp [mDef, startD, mSeq, mSet, mRet, mRetN, mExpr, mIfS, mNop, mCons, mNil, mOp, mC, mVar, mFrz, mMov, mIf, mTest, mTru, mAnd, mOr, mNot, mAndV, mOrV, mNotV, mInt, viewL, view, isImm, mIt, itemsOf, mLC, mFor, mStr1, mTup, mLst, mCall, takeA, putA, mMeth, insAt, mMake, noBrw, mMut, lstAt, mChain, mFld, objAt, mSetF, mAugF, ioOf, mDic, pairD, mAsg, isSto, wipeL, e1, e, lockD]) (by rw [rng_len]; simp; omega)
  obtain ⟨ks, rfl⟩ := h2
  obtain ⟨is, rfl, h5⟩ := un_locks h4
  refine ⟨is, ks, ?_, ?_, h5⟩
  · unfold F__law_any_locks m__law_any_locks
    have hr := rng_ev (me := mVar 2) (l := [some (.lst (ns.map .int)), some (.own (js.map .int)), some (.int (m : Int)), none]) (m := m) rfl (by omega)
    simp only [List.nil_append] at h1
    simp [mDef, startD, mSeq, mSet, mRet, mRetN, mExpr, mIfS, mNop, mCons, mNil, mOp, mC, mVar, mFrz, mMov, mIf, mTest, mTru, mAnd, mOr, mNot, mAndV, mOrV, mNotV, mInt, viewL, view, isImm, mIt, itemsOf, mLC, mFor, mStr1, mTup, mLst, mCall, takeA, putA, mMeth, insAt, mMake, noBrw, mMut, lstAt, mChain, mFld, objAt, mSetF, mAugF, ioOf, mDic, pairD, mAsg, isSto, wipeL, hr, h1, gTuple]
  · rw [rng_len, List.length_map] at h3
    exact h3

theorem lockR_short {lk : List (List Int)} (h : Keys lk) : ∀ r ∈ lockR lk, r.2.length ≤ 10 := fun r hr => by
  rcases List.mem_cons.mp hr with rfl | hr
  · show 0 ≤ 10
    decide
  · exact rws_short h r hr
theorem lockR_ok {lk : List (List Int)} (h : Keys lk) : Ok (lockR lk) := fun r hr => by
  rcases List.mem_cons.mp hr with rfl | hr
  · exact ⟨by show wLock.length ≤ 20 ∧ 10 ∉ wLock ∧ 32 ∉ wLock; decide, by show 0 ≤ 300; decide, fun i hi => by cases hi⟩
  · exact ok_keys h (by decide) r hr
theorem locks_ok {L : List (List (List Int))} (h : Locks L) : Ok (locksR L) := fun r hr => by
  obtain ⟨x, hx, hr⟩ := List.mem_flatten.mp hr
  obtain ⟨lk, hl, rfl⟩ := List.mem_map.mp hx
  exact lockR_ok (h lk hl).2 r hr
theorem locks_short {L : List (List (List Int))} (h : Locks L) : ∀ r ∈ locksR L, r.2.length ≤ 10 := fun r hr => by
  obtain ⟨x, hx, hr⟩ := List.mem_flatten.mp hr
  obtain ⟨lk, hl, rfl⟩ := List.mem_map.mp hx
  exact lockR_short (h lk hl).2 r hr
theorem lockR_len (lk : List (List Int)) : (lockR lk).length = lk.length + 1 := by simp [lockR, rws]
theorem locks_len {L : List (List (List Int))} (hL : Locks L) : (locksR L).length ≤ L.length * 5 := by
  unfold locksR
  rw [List.length_flatten, List.map_map]
  exact sum_le _ 5 L fun lk hl => by
    have := (hL lk hl).1
    simp [lockR, rws]
    omega
theorem S_written_locks {L : List (List (List Int))} (hL : Locks L) (hn : L.length ≤ 1000) : F_written_locks C [.tup (L.map lockD)] = .ok (.str (txt (locksR L))) [] := by
  have e := lc_map (v := 1) (l := [some (.tup (L.map lockD)), none, none]) (te := mOp gAdd (mCons (mC (.str [108, 111, 99, 107, 10])) (mCons (mStr1 gJoin (mC (.str [])) (mLC [2] (mIt (mVar 1)) (gN 2) mYes (mCall [false, false] (F_line C) (mCons (mC (.str [99, 104, 97, 109, 98, 101, 114])) (mCons (mVar 2) mNil))))) mNil)))
    (f := fun d => .str (txt (lockR (unL d)))) rfl (ds := L.map lockD) (acc := []) (by
    intro d hd
    obtain ⟨lk, hl, rfl⟩ := List.mem_map.mp hd
    have o := lockR_ok (hL lk hl).2
    have o2 : Ok (rws wCham lk) := fun r hr => o r (List.mem_cons_of_mem _ hr)
    have b := ok_rws.mp o2
    have hk := (hL lk hl).1
    have e1 := lc_line (C := C) (v := 2) (l := [some (.tup (L.map lockD)), some (.tup (lk.map tupI)), none]) rfl (by simp) b (by omega)
    have c := txt_short o2 (rws_short (hL lk hl).2)
    have c5 : (rws wCham lk).length = lk.length := List.length_map ..
    rw [un_lockD]
    unfold lockR
    have hlk : lineT (wLock, []) ++ [10] = [108, 111, 99, 107, 10] := rfl
    rw [txt_cons, hlk]
    simp [mDef, startD, mSeq, mSet, mRet, mRetN, mExpr, mIfS, mNop, mCons, mNil, mOp, mC, mVar, mFrz, mMov, mIf, mTest, mTru, mAnd, mOr, mNot, mAndV, mOrV, mNotV, mInt, viewL, view, isImm, mIt, itemsOf, mLC, mFor, mStr1, mTup, mLst, mCall, takeA, putA, mMeth, insAt, mMake, noBrw, mMut, lstAt, mChain, mFld, objAt, mSetF, mAugF, ioOf, mDic, pairD, mAsg, isSto, wipeL, lockD, e1, join_rws b (keys_short (hL lk hl).2), (by omega : lk.length ≤ 20000), gAdd, (by omega : 5 + (txt (rws wCham lk)).length ≤ 16777216)]) (by simp; omega)
  have e2 : (L.map lockD).map (fun d => D.str (txt (lockR (unL d)))) = L.map (D.str ∘ fun lk => txt (lockR lk)) := by
    rw [List.map_map]
    simp [Function.comp_def, un_lockD]
  rw [e2] at e
  have hj := join_flat (f := fun lk => txt (lockR lk)) (A := L) 8000 (fun lk hl => by
    have o := lockR_ok (hL lk hl).2
    have c := txt_short o (lockR_short (hL lk hl).2)
    have c5 : (lockR lk).length = lk.length + 1 := by simp [lockR, rws]
    have hk := (hL lk hl).1
    omega) (by omega)
  unfold F_written_locks m_written_locks
  rw [txt_flat]
  simp only [List.nil_append] at e
  simp [mDef, startD, mSeq, mSet, mRet, mRetN, mExpr, mIfS, mNop, mCons, mNil, mOp, mC, mVar, mFrz, mMov, mIf, mTest, mTru, mAnd, mOr, mNot, mAndV, mOrV, mNotV, mInt, viewL, view, isImm, mIt, itemsOf, mLC, mFor, mStr1, mTup, mLst, mCall, takeA, putA, mMeth, insAt, mMake, noBrw, mMut, lstAt, mChain, mFld, objAt, mSetF, mAugF, ioOf, mDic, pairD, mAsg, isSto, wipeL, e, hj]
theorem S_finish {R : List Row} {k : Nat} (hk : R.length ≤ k) : F_Lines_finish C [rd C R k] = .ok .non [rd C R k] := by
  unfold F_Lines_finish m_Lines_finish
  simp [mDef, startD, mSeq, mSet, mRet, mRetN, mExpr, mIfS, mNop, mCons, mNil, mOp, mC, mVar, mFrz, mMov, mIf, mTest, mTru, mAnd, mOr, mNot, mAndV, mOrV, mNotV, mInt, viewL, view, isImm, mIt, itemsOf, mLC, mFor, mStr1, mTup, mLst, mCall, takeA, putA, mMeth, insAt, mMake, noBrw, mMut, lstAt, mChain, mFld, objAt, mSetF, mAugF, ioOf, mDic, pairD, mAsg, isSto, wipeL, f_1, S_done, hk, gTru]

theorem S_locks_of {L : List (List (List Int))} {R : List Row} {k0 : Nat} {rest : List Row} (h : Ok R) (hl : (txt R).length ≤ 20000) (h0 : R.drop k0 = locksR L ++ rest) (hz : ∀ r, rest[0]? = some r → r.1 ≠ wLock ∧ r.1 ≠ wCham) :
    F_locks_of C [rd C R k0] = .ok (.tup (L.map lockD)) [rd C R (k0 + (locksR L).length)] ∧ R.drop (k0 + (locksR L).length) = rest := by
  have hc := txt_count R
  have hLR : ∀ L : List (List (List Int)), L.length ≤ (locksR L).length := by
    intro L
    induction L with
    | nil => simp
    | cons a L ih =>
      have : locksR (a :: L) = lockR a ++ locksR L := rfl
      rw [this, List.length_append, List.length_cons]
      simp [lockR]
      omega
  have hLn := hLR L
  have hend : R.drop (k0 + (locksR L).length) = rest := by rw [← List.drop_drop, h0, List.drop_left]
  have hbig : (locksR L).length ≤ R.length := by
    have := congrArg List.length h0
    rw [List.length_drop, List.length_append] at this
    omega
  refine ⟨?_, hend⟩
  have wh : ∀ (j i k : Nat), j + i = L.length → R.drop k = locksR (L.drop i) ++ rest → k + (locksR (L.drop i)).length = k0 + (locksR L).length → loopW (mTest (mOp gNotN (mCons (mMeth C "peek" [true, false] (F_Lines_peek C) (mVar 0) (mCons (mFrz (mDic (mCons (mC (.str [108, 111, 99, 107])) (mCons (mC (.int 0)) (mNil))))) (mNil))) (mCons (mC .non) mNil))))
      (mSeq (mExpr (mMeth C "take" [true, false] (F_Lines_take C) (mVar 0) (mCons (mFrz (mDic (mCons (mC (.str [108, 111, 99, 107])) (mCons (mC (.int 0)) (mNil))))) (mNil)))) (mExpr (mMut 1 gApp (mCons (mCall [true, false] (F_taken_rows C) (mCons (mVar 0) (mCons (mC (.str [99, 104, 97, 109, 98, 101, 114])) (mNil)))) (mNil))))) (j + 1)
      [some (rd C R k), some (.own ((L.take i).map lockD))] = .nx [some (rd C R (k0 + (locksR L).length)), some (.own (L.map lockD))] := by
    intro j
    induction j with
    | zero =>
      intro i k hi hd hk
      rw [List.drop_of_length_le (by omega : L.length ≤ i)] at hd hk
      obtain rfl : k = k0 + (locksR L).length := hk
      have hd : R.drop (k0 + (locksR L).length) = rest := hd
      rw [List.take_of_length_le (by omega)]
      refine while_end ?_
      have hm : peekR R (k0 + (locksR L).length) [(.str wLock, .int 0)] = .non := peek_miss fun r hr => by
        have e : R[k0 + (locksR L).length]? = (R.drop (k0 + (locksR L).length))[0]? := by rw [List.getElem?_drop]; rfl
        rw [e, hd] at hr
        exact (hz r hr).1
      simp [mDef, startD, mSeq, mSet, mRet, mRetN, mExpr, mIfS, mNop, mCons, mNil, mOp, mC, mVar, mFrz, mMov, mIf, mTest, mTru, mAnd, mOr, mNot, mAndV, mOrV, mNotV, mInt, viewL, view, isImm, mIt, itemsOf, mLC, mFor, mStr1, mTup, mLst, mCall, takeA, putA, mMeth, insAt, mMake, noBrw, mMut, lstAt, mChain, mFld, objAt, mSetF, mAugF, ioOf, mDic, pairD, mAsg, isSto, wipeL, dk, f_2, S_peek h hl one_m, hm, gNotN, FM.isNon]
    | succ j ih =>
      intro i k hi hd hk
      have hlt : i < L.length := by omega
      have e0 : L[i]? = some L[i] := List.getElem?_eq_getElem hlt
      have ed : L.drop i = L[i] :: L.drop (i + 1) := List.drop_eq_getElem_cons hlt
      generalize L[i] = lk at e0 ed
      have hd1 : R.drop k = (wLock, []) :: (rws wCham lk ++ (locksR (L.drop (i + 1)) ++ rest)) := by
        rw [hd, ed]
        simp [locksR, lockR]
      obtain ⟨g1, g2⟩ := drop_get hd1
      obtain ⟨t1, t2⟩ := T_rows (C := C) h hl g2 (by
        intro r hr
        cases hx : L.drop (i + 1) with
        | nil =>
          rw [hx] at hr
          exact (hz r hr).2
        | cons a b =>
          rw [hx] at hr
          cases hr
          show wLock ≠ wCham
          decide)
      have hp : peekR R k [(.str wLock, .int (0 : Nat))] = .tup [.str wLock, .tup (([] : List Int).map .int)] := peek_hit_n (n := 0) g1 rfl rfl
      have hp : peekR R k [(.str wLock, .int 0)] = .tup [.str wLock, .tup (([] : List Int).map .int)] := hp
      have hk2 : k + 1 + lk.length + (locksR (L.drop (i + 1))).length = k0 + (locksR L).length := by
        rw [← hk, ed]
        have e : locksR (lk :: L.drop (i + 1)) = lockR lk ++ locksR (L.drop (i + 1)) := rfl
        rw [e, List.length_append, lockR_len]
        omega
      refine while_step (l1 := [some (rd C R k), some (.own ((L.take i).map lockD))]) ?_ ?_ (ih (i + 1) (k + 1 + lk.length) (by omega) t2 hk2)
      · simp [mDef, startD, mSeq, mSet, mRet, mRetN, mExpr, mIfS, mNop, mCons, mNil, mOp, mC, mVar, mFrz, mMov, mIf, mTest, mTru, mAnd, mOr, mNot, mAndV, mOrV, mNotV, mInt, viewL, view, isImm, mIt, itemsOf, mLC, mFor, mStr1, mTup, mLst, mCall, takeA, putA, mMeth, insAt, mMake, noBrw, mMut, lstAt, mChain, mFld, objAt, mSetF, mAugF, ioOf, mDic, pairD, mAsg, isSto, wipeL, dk, f_2, S_peek h hl one_m, hp, gNotN, FM.isNon]
      · have ht : (L.take i).length < 16777216 := by
          rw [List.length_take]
          omega
        simp at ht
        have tk := S_take (C := C) h hl one_m hp
        simp at tk
        simp [mDef, startD, mSeq, mSet, mRet, mRetN, mExpr, mIfS, mNop, mCons, mNil, mOp, mC, mVar, mFrz, mMov, mIf, mTest, mTru, mAnd, mOr, mNot, mAndV, mOrV, mNotV, mInt, viewL, view, isImm, mIt, itemsOf, mLC, mFor, mStr1, mTup, mLst, mCall, takeA, putA, mMeth, insAt, mMake, noBrw, mMut, lstAt, mChain, mFld, objAt, mSetF, mAugF, ioOf, mDic, pairD, mAsg, isSto, wipeL, dk, f_3, tk, t1, gApp, ht]
        rw [List.take_add_one]
        simp [e0, lockD]
  have := mWhile_eq (L.length + 1) (wh L.length 0 k0 (by omega) (by rw [h0]; rfl) rfl) (by simp)
  unfold F_locks_of m_locks_of
  simp at this
  simp [mDef, startD, mSeq, mSet, mRet, mRetN, mExpr, mIfS, mNop, mCons, mNil, mOp, mC, mVar, mFrz, mMov, mIf, mTest, mTru, mAnd, mOr, mNot, mAndV, mOrV, mNotV, mInt, viewL, view, isImm, mIt, itemsOf, mLC, mFor, mStr1, mTup, mLst, mCall, takeA, putA, mMeth, insAt, mMake, noBrw, mMut, lstAt, mChain, mFld, objAt, mSetF, mAugF, ioOf, mDic, pairD, mAsg, isSto, wipeL, this, gTuple]
theorem S_lock_lines {L : List (List (List Int))} (h : Ok (locksR L)) (hn : L.length ≤ 1000) (hb : ∀ lk ∈ L, lk.length ≤ 10) : F__law_lock_lines C [.tup (L.map lockD)] = .ok (.lst ((locksR L).map (D.str ∘ lineT))) [] := by
  obtain ⟨l', e1, x, e2⟩ := for_inv (t := gN 2) (b := mSet 1 (mFrz (mOp gAdd (mCons (mOp gAdd (mCons (mVar 1) (mCons (mLst (mCons (mC (.str [108, 111, 99, 107])) (mNil))) mNil))) (mCons (mLC [3] (mIt (mVar 2)) (gN 3) (mYes) (mCall [false, false] (F__law_text_line C) (mCons (mC (.str [99, 104, 97, 109, 98, 101, 114])) (mCons (mVar 3) (mNil))))) mNil)))))
    (P := fun rest l => ∃ (L1 L2 : List (List (List Int))) (x : Option D), L = L1 ++ L2 ∧ rest = L2.map lockD ∧ l = [some (.tup (L.map lockD)), some (.lst ((locksR L1).map (D.str ∘ lineT))), x, none]) (by
      intro d rest l ⟨L1, L2, x, h1, h2, h3⟩
      cases L2 with
      | nil => cases h2
      | cons lk L2 =>
        cases h2
        subst h3
        have hlk : lk ∈ L := by rw [h1]; simp
        have o := ok_locks h lk hlk
        have o2 : Ok (rws wCham lk) := fun r hr => o r (List.mem_cons_of_mem _ hr)
        have b := ok_rws.mp o2
        have hk := hb lk hlk
        have e1 := lc_text (C := C) (v := 3) (l := [some (.tup (L.map lockD)), some (.lst ((locksR L1).map (D.str ∘ lineT))), some (.tup (lk.map tupI)), none]) rfl (by simp) b (by omega)
        have hlen : (locksR L1).length ≤ 11000 := by
          have hs := sum_le (fun lk => (lockR lk).length) 11 L1 (fun lk hl => by
            have := hb lk (by rw [h1]; simp [hl])
            simp [lockR, rws]
            omega)
          have hL : L1.length ≤ L.length := by rw [h1]; simp
          unfold locksR
          rw [List.length_flatten, List.map_map]
          simp only [Function.comp_def]
          omega
        refine ⟨[some (.tup (L.map lockD)), some (.lst ((locksR L1).map (D.str ∘ lineT))), some (.tup (lk.map tupI)), none], [some (.tup (L.map lockD)), some (.lst ((locksR (L1 ++ [lk])).map (D.str ∘ lineT))), some (.tup (lk.map tupI)), none], rfl, ?_, L1 ++ [lk], L2, some (.tup (lk.map tupI)), by rw [h1]; simp, rfl, rfl⟩
        have ea : locksR (L1 ++ [lk]) = locksR L1 ++ lockR lk := by simp [locksR]
        have eb : (lockR lk).map (D.str ∘ lineT) = .str [108, 111, 99, 107] :: lk.map (D.str ∘ fun is => lineT (wCham, is)) := by
          unfold lockR
          rw [List.map_cons, rows_rws]
          rfl
        rw [ea, rows_app, eb]
        simp [mDef, startD, mSeq, mSet, mRet, mRetN, mExpr, mIfS, mNop, mCons, mNil, mOp, mC, mVar, mFrz, mMov, mIf, mTest, mTru, mAnd, mOr, mNot, mAndV, mOrV, mNotV, mInt, viewL, view, isImm, mIt, itemsOf, mLC, mFor, mStr1, mTup, mLst, mCall, takeA, putA, mMeth, insAt, mMake, noBrw, mMut, lstAt, mChain, mFld, objAt, mSetF, mAugF, ioOf, mDic, pairD, mAsg, isSto, wipeL, e1, gAdd, (by omega : (locksR L1).length + 1 ≤ 16777216), (by omega : (locksR L1).length + 1 + lk.length ≤ 16777216)])
    (ds := L.map lockD) (l := [some (.tup (L.map lockD)), some (.lst []), none, none]) ⟨[], L, none, rfl, rfl, rfl⟩
  obtain ⟨L2, x3, h1, h2, h3⟩ := e2
  have h2 : L2 = [] := by
    cases L2 with
    | nil => rfl
    | cons a b => cases h2
  subst h2
  rw [List.append_nil] at h1
  subst h1
  subst h3
  unfold F__law_lock_lines m__law_lock_lines
  simp only [mDef, startD, mSeq, mSet, mRet, mRetN, mExpr, mIfS, mNop, mCons, mNil, mOp, mC, mVar, mFrz, mMov, mIf, mTest, mTru, mAnd, mOr, mNot, mAndV, mOrV, mNotV, mInt, viewL, view, isImm, mIt, itemsOf, mLC, mFor, mStr1, mTup, mLst, mCall, takeA, putA, mMeth, insAt, mMake, noBrw, mMut, lstAt, mChain, mFld, objAt, mSetF, mAugF, ioOf, mDic, pairD, mAsg, isSto, wipeL, List.map_cons, List.map_nil, List.length_cons, List.length_nil, List.cons_append, List.nil_append]
  simp [mDef, startD, mSeq, mSet, mRet, mRetN, mExpr, mIfS, mNop, mCons, mNil, mOp, mC, mVar, mFrz, mMov, mIf, mTest, mTru, mAnd, mOr, mNot, mAndV, mOrV, mNotV, mInt, viewL, view, isImm, mIt, itemsOf, mLC, mFor, mStr1, mTup, mLst, mCall, takeA, putA, mMeth, insAt, mMake, noBrw, mMut, lstAt, mChain, mFld, objAt, mSetF, mAugF, ioOf, mDic, pairD, mAsg, isSto, wipeL, e1]

structure Stand where
  ks : List (List Int)
  ps : List Int
  t : Int
def stD (s : Stand) : D := .tup [.tup (s.ks.map tupI), tupI s.ps, .int s.t]
def stR (s : Stand) : List Row := rws wKey s.ks ++ [(wPin, s.ps), (wTries, [s.t])]
def StOk (n : Nat) (s : Stand) : Prop := s.ks.length ≤ n ∧ Keys s.ks ∧ s.ps.length ≤ n ∧ (∀ i ∈ s.ps, Sm i) ∧ Sm s.t
theorem one_sm {i : Int} (h : Sm i) : ∀ j ∈ [i], Sm j := fun j hj => by
  rw [List.mem_singleton.mp hj]
  exact h
theorem stR_ok {s : Stand} {n : Nat} (hn : n ≤ 300) (h : StOk n s) : Ok (stR s) := by
  obtain ⟨h1, h2, h3, h4, h5⟩ := h
  intro r hr
  rcases List.mem_append.mp hr with hr | hr
  · exact ok_keys h2 (by decide) r hr
  · rcases mem2 hr with rfl | rfl
    · exact ⟨by show wPin.length ≤ 20 ∧ 10 ∉ wPin ∧ 32 ∉ wPin; decide, by show s.ps.length ≤ 300; omega, h4⟩
    · exact ⟨by show wTries.length ≤ 20 ∧ 10 ∉ wTries ∧ 32 ∉ wTries; decide, by show 1 ≤ 300; decide, one_sm h5⟩
theorem stR_len {s : Stand} {n : Nat} (h : StOk n s) : (stR s).length ≤ n + 2 := by
  have := h.1
  simp [stR, rws]
  omega
theorem S_write_stand {s : Stand} {n : Nat} (hn : n ≤ 300) (h : StOk n s) : F_write_stand C [stD s] = .ok (.str (txt (stR s))) [] := by
  have ok := stR_ok hn h
  obtain ⟨h1, h2, h3, h4, h5⟩ := h
  have o1 : Ok (rws wKey s.ks) := ok_keys h2 (by decide)
  have o2 : RowOk wPin s.ps := ok (wPin, s.ps) (by simp [stR])
  have o3 : RowOk wTries [s.t] := ok (wTries, [s.t]) (by simp [stR])
  have e := lc_line (C := C) (v := 2) (l := [some (stD s), none, none]) rfl (by simp) (ok_rws.mp o1) (by omega)
  have s2 := S_line (C := C) o2
  have s3 := S_line (C := C) o3
  have c1 := txt_short o1 (rws_short h2)
  have c2 := rowT_len o2
  have c3 := rowT_len o3
  have c4 : (rws wKey s.ks).length = s.ks.length := List.length_map ..
  have er : txt (stR s) = txt (rws wKey s.ks) ++ (rowT wPin s.ps ++ ([10] ++ (rowT wTries [s.t] ++ [10]))) := by
    unfold stR
    rw [txt_app, txt_cons, txt_cons]
    simp [txt, lineT]
  rw [er]
  unfold F_write_stand m_write_stand
  simp only [stD, tupI, List.map_cons, List.map_nil] at e s3 ⊢
  simp [mDef, startD, mSeq, mSet, mRet, mRetN, mExpr, mIfS, mNop, mCons, mNil, mOp, mC, mVar, mFrz, mMov, mIf, mTest, mTru, mAnd, mOr, mNot, mAndV, mOrV, mNotV, mInt, viewL, view, isImm, mIt, itemsOf, mLC, mFor, mStr1, mTup, mLst, mCall, takeA, putA, mMeth, insAt, mMake, noBrw, mMut, lstAt, mChain, mFld, objAt, mSetF, mAugF, ioOf, mDic, pairD, mAsg, isSto, wipeL, gIx, atI_zero, atI_one, atI_two, e, join_rws (ok_rws.mp o1) (keys_short h2), (by omega : s.ks.length ≤ 20000), s2, s3, gAdd, (by omega : (txt (rws wKey s.ks)).length + ((rowT wPin s.ps).length + 1) ≤ 16777216), (by omega : (txt (rws wKey s.ks)).length + ((rowT wPin s.ps).length + 1) + ((rowT wTries [s.t]).length + 1) ≤ 16777216)]
theorem S_stand_of {R : List Row} {k : Nat} (h : Ok R) (hl : (txt R).length ≤ 20000) {s : Stand} {rest : List Row} (hd : R.drop k = stR s ++ rest) : F_stand_of C [rd C R k] = .ok (stD s) [rd C R (k + (stR s).length)] ∧ R.drop (k + (stR s).length) = rest := by
  have e0 : R.drop k = rws wKey s.ks ++ ((wPin, s.ps) :: (wTries, [s.t]) :: rest) := by
    rw [hd]
    simp [stR]
  obtain ⟨t1, d1⟩ := T_rows (C := C) h hl e0 (by
    intro r hr
    cases hr
    show wPin ≠ wKey
    decide)
  obtain ⟨g1, d2⟩ := drop_get d1
  obtain ⟨g2, d3⟩ := drop_get d2
  have p1 := peek_hit g1 rfl
  have p2 : peekR R (k + s.ks.length + 1) [(.str wTries, .int 1)] = .tup [.str wTries, .tup ([s.t].map .int)] := peek_hit_n (n := 1) g2 rfl rfl
  have k1 := S_take (C := C) h hl one_m p1
  have k2 := S_take (C := C) h hl one_m p2
  have el : k + (stR s).length = k + s.ks.length + 1 + 1 := by
    simp [stR, rws]
    omega
  rw [el]
  refine ⟨?_, d3⟩
  simp only [List.map_cons, List.map_nil] at k2
  unfold F_stand_of m_stand_of
  simp [mDef, startD, mSeq, mSet, mRet, mRetN, mExpr, mIfS, mNop, mCons, mNil, mOp, mC, mVar, mFrz, mMov, mIf, mTest, mTru, mAnd, mOr, mNot, mAndV, mOrV, mNotV, mInt, viewL, view, isImm, mIt, itemsOf, mLC, mFor, mStr1, mTup, mLst, mCall, takeA, putA, mMeth, insAt, mMake, noBrw, mMut, lstAt, mChain, mFld, objAt, mSetF, mAugF, ioOf, mDic, pairD, mAsg, isSto, wipeL, t1, f_3, dk, gNeg, k1, k2, gIx, atI_zero, atI_one, stD, tupI]

theorem S_read_stand {s : Stand} {n : Nat} (hn : n ≤ 300) (hs : StOk n s) (hl : (txt (stR s)).length ≤ 20000) : F_read_stand C [.str (txt (stR s))] = .ok (stD s) [] := by
  have h := stR_ok hn hs
  obtain ⟨t1, t2⟩ := S_stand_of (C := C) (k := 0) (rest := []) h hl (by rw [List.append_nil]; rfl)
  have he := drop_end t2
  rw [Nat.zero_add] at t1 he
  generalize stR s = R at *
  unfold F_read_stand m_read_stand
  simp only [stD] at t1 ⊢
  simp [mDef, startD, mSeq, mSet, mRet, mRetN, mExpr, mIfS, mNop, mCons, mNil, mOp, mC, mVar, mFrz, mMov, mIf, mTest, mTru, mAnd, mOr, mNot, mAndV, mOrV, mNotV, mInt, viewL, view, isImm, mIt, itemsOf, mLC, mFor, mStr1, mTup, mLst, mCall, takeA, putA, mMeth, insAt, mMake, noBrw, mMut, lstAt, mChain, mFld, objAt, mSetF, mAugF, ioOf, mDic, pairD, mAsg, isSto, wipeL, S_init h hl, t1, f_4, S_finish he]
end K84

set_option maxHeartbeats 1000000
namespace K84
open FM L2
open PySem (Str Addr)
variable {C : Addr}
abbrev Pinning := List (List (List Int))
def pinD (p : Pinning) : D := .tup (p.map lockD)
def pinR (p : Pinning) : List Row := (wPing, []) :: locksR p
def pinsR (P : List Pinning) : List Row := (P.map pinR).flatten
def PinOk (p : Pinning) : Prop := p.length ≤ 3 ∧ Locks p
structure House where
  l3 : List Int
  ks : List (List Int)
  P : List Pinning
  ps : List Int
  t : Int
def hoD (h : House) : D := .tup [tupI h.l3, .tup (h.ks.map tupI), .tup (h.P.map pinD), tupI h.ps, .int h.t]
def hoR (h : House) : List Row := (wLine, h.l3) :: (rws wKey h.ks ++ (pinsR h.P ++ [(wPlaces, h.ps), (wTries, [h.t])]))
structure HoOk (n q : Nat) (h : House) : Prop where
  l3 : Nums 3 h.l3
  ks : h.ks.length ≤ n ∧ Keys h.ks
  P : h.P.length ≤ q ∧ ∀ p ∈ h.P, PinOk p
  ps : h.ps.length ≤ n ∧ ∀ i ∈ h.ps, Sm i
  t : Sm h.t
theorem pinR_ok {p : Pinning} (h : PinOk p) : Ok (pinR p) := fun r hr => by
  rcases List.mem_cons.mp hr with rfl | hr
  · exact ⟨by show wPing.length ≤ 20 ∧ 10 ∉ wPing ∧ 32 ∉ wPing; decide, by show 0 ≤ 300; decide, fun i hi => by cases hi⟩
  · exact locks_ok h.2 r hr
theorem pinR_short {p : Pinning} (h : PinOk p) : ∀ r ∈ pinR p, r.2.length ≤ 10 := fun r hr => by
  rcases List.mem_cons.mp hr with rfl | hr
  · show 0 ≤ 10
    decide
  · exact locks_short h.2 r hr
theorem pinR_len {p : Pinning} (h : PinOk p) : (pinR p).length ≤ 16 := by
  have a := locks_len h.2
  have b := h.1
  show (locksR p).length + 1 ≤ 16
  omega
theorem pinsR_ok {P : List Pinning} (h : ∀ p ∈ P, PinOk p) : Ok (pinsR P) := fun r hr => by
  obtain ⟨x, hx, hr⟩ := List.mem_flatten.mp hr
  obtain ⟨p, hp, rfl⟩ := List.mem_map.mp hx
  exact pinR_ok (h p hp) r hr
theorem pinsR_len {P : List Pinning} (h : ∀ p ∈ P, PinOk p) : (pinsR P).length ≤ P.length * 16 := by
  unfold pinsR
  rw [List.length_flatten, List.map_map]
  exact sum_le _ 16 P fun p hp => pinR_len (h p hp)
theorem hoR_ok {n q : Nat} (hn : n ≤ 300) {h : House} (o : HoOk n q h) : Ok (hoR h) := fun r hr => by
  rcases List.mem_cons.mp hr with rfl | hr
  · exact ⟨by show wLine.length ≤ 20 ∧ 10 ∉ wLine ∧ 32 ∉ wLine; decide, by show h.l3.length ≤ 300; have := o.l3.1; omega, o.l3.2⟩
  · rcases List.mem_append.mp hr with hr | hr
    · exact ok_keys o.ks.2 (by decide) r hr
    · rcases List.mem_append.mp hr with hr | hr
      · exact pinsR_ok o.P.2 r hr
      · rcases mem2 hr with rfl | rfl
        · exact ⟨by show wPlaces.length ≤ 20 ∧ 10 ∉ wPlaces ∧ 32 ∉ wPlaces; decide, by show h.ps.length ≤ 300; have := o.ps.1; omega, o.ps.2⟩
        · exact ⟨by show wTries.length ≤ 20 ∧ 10 ∉ wTries ∧ 32 ∉ wTries; decide, by show 1 ≤ 300; decide, one_sm o.t⟩
theorem hoR_len {n q : Nat} {h : House} (o : HoOk n q h) : (hoR h).length ≤ n + q * 16 + 3 := by
  have a := pinsR_len o.P.2
  have b := o.P.1
  have c := o.ks.1
  simp [hoR, rws]
  omega
def unP : D → Pinning
  | .tup l => l.map unL
  | _ => []
theorem un_pinD (p : Pinning) : unP (pinD p) = p := by simp [unP, pinD, Function.comp_def, un_lockD]
theorem S_write_house {n q : Nat} (hn : n ≤ 200) (hq : q ≤ 30) {h : House} (o : HoOk n q h) : F_write_house C [hoD h] = .ok (.str (txt (hoR h))) [] := by
  have ok := hoR_ok (by omega) o
  have o1 : RowOk wLine h.l3 := ok (wLine, h.l3) List.mem_cons_self
  have o2 : Ok (rws wKey h.ks) := ok_keys o.ks.2 (by decide)
  have o3 : RowOk wPlaces h.ps := ok (wPlaces, h.ps) (by simp [hoR])
  have o4 : RowOk wTries [h.t] := ok (wTries, [h.t]) (by simp [hoR])
  have s1 := S_line (C := C) o1
  have s3 := S_line (C := C) o3
  have s4 := S_line (C := C) o4
  have hk := o.ks.1
  have hp := o.P.1
  have c1 := rowT_len o1
  have c2 := txt_short o2 (rws_short o.ks.2)
  have c3 := rowT_len o3
  have c4 := rowT_len o4
  have c5 : (rws wKey h.ks).length = h.ks.length := List.length_map ..
  have c6 := pinsR_len o.P.2
  have c7 : (txt (pinsR h.P)).length ≤ (pinsR h.P).length * 701 := txt_short (pinsR_ok o.P.2) fun r hr => by
    obtain ⟨x, hx, hr⟩ := List.mem_flatten.mp hr
    obtain ⟨p, hp, rfl⟩ := List.mem_map.mp hx
    exact pinR_short (o.P.2 p hp) r hr
  have e1 := lc_line (C := C) (v := 8) (l := [some (hoD h), some (tupI h.l3), some (.tup (h.ks.map tupI)), some (.tup (h.P.map pinD)), some (tupI h.ps), some (.int h.t), none, none, none]) rfl (by simp) (ok_rws.mp o2) (by omega)
  have e2 := lc_map (v := 7) (l := [some (hoD h), some (tupI h.l3), some (.tup (h.ks.map tupI)), some (.tup (h.P.map pinD)), some (tupI h.ps), some (.int h.t), some (.str (rowT wLine h.l3 ++ 10 :: txt (rws wKey h.ks))), none, none]) (te := mOp gAdd (mCons (mC (.str [112, 105, 110, 110, 105, 110, 103, 10])) (mCons (mCall [false] (F_written_locks C) (mCons (mVar 7) (mNil))) mNil))) (f := fun d => .str (txt (pinR (unP d)))) rfl (ds := h.P.map pinD) (acc := []) (by
    intro d hd
    obtain ⟨p, hp, rfl⟩ := List.mem_map.mp hd
    have op := o.P.2 p hp
    have w := S_written_locks (C := C) op.2 (by have := op.1; omega)
    have cl := txt_short (locks_ok op.2) (locks_short op.2)
    have cm := locks_len op.2
    have hl3 := op.1
    have hlk : lineT (wPing, []) ++ [10] = [112, 105, 110, 110, 105, 110, 103, 10] := rfl
    rw [un_pinD]
    unfold pinR
    rw [txt_cons, hlk]
    simp only [pinD] at w ⊢
    simp [mDef, startD, mSeq, mSet, mRet, mRetN, mExpr, mIfS, mNop, mCons, mNil, mOp, mC, mVar, mFrz, mMov, mIf, mTest, mTru, mAnd, mOr, mNot, mAndV, mOrV, mNotV, mInt, viewL, view, isImm, mIt, itemsOf, mLC, mFor, mStr1, mTup, mLst, mCall, takeA, putA, mMeth, insAt, mMake, noBrw, mMut, lstAt, mChain, mFld, objAt, mSetF, mAugF, ioOf, mDic, pairD, mAsg, isSto, wipeL, w, gAdd, (by omega : 8 + (txt (locksR p)).length ≤ 16777216)]) (by simp; omega)
  have e3 : (h.P.map pinD).map (fun d => D.str (txt (pinR (unP d)))) = h.P.map (D.str ∘ fun p => txt (pinR p)) := by
    rw [List.map_map]
    simp [Function.comp_def, un_pinD]
  rw [e3] at e2
  have hj := join_flat (f := fun p => txt (pinR p)) (A := h.P) 11300 (fun p hp => by
    have a := txt_short (pinR_ok (o.P.2 p hp)) (pinR_short (o.P.2 p hp))
    have b := pinR_len (o.P.2 p hp)
    omega) (by omega)
  have hj2 : (h.P.map fun p => txt (pinR p)).flatten = txt (pinsR h.P) := (txt_flat' pinR h.P).symm
  rw [hj2] at hj
  have er : txt (hoR h) = rowT wLine h.l3 ++ ([10] ++ (txt (rws wKey h.ks) ++ (txt (pinsR h.P) ++ (rowT wPlaces h.ps ++ ([10] ++ (rowT wTries [h.t] ++ [10])))))) := by
    unfold hoR
    rw [txt_cons, txt_app, txt_app, txt_cons, txt_cons]
    simp [txt, lineT]
  rw [er]
  generalize txt (pinsR h.P) = TP at *
  unfold F_write_house m_write_house
  simp only [hoD, tupI, List.map_cons, List.map_nil, List.nil_append] at e1 e2 s4 ⊢
  simp [mDef, startD, mSeq, mSet, mRet, mRetN, mExpr, mIfS, mNop, mCons, mNil, mOp, mC, mVar, mFrz, mMov, mIf, mTest, mTru, mAnd, mOr, mNot, mAndV, mOrV, mNotV, mInt, viewL, view, isImm, mIt, itemsOf, mLC, mFor, mStr1, mTup, mLst, mCall, takeA, putA, mMeth, insAt, mMake, noBrw, mMut, lstAt, mChain, mFld, objAt, mSetF, mAugF, ioOf, mDic, pairD, mAsg, isSto, wipeL, mAug, gT, gsCons, gsNil, gN, s1, s3, s4, e1, e2, hj, join_rws (ok_rws.mp o2) (keys_short o.ks.2), (by omega : h.ks.length ≤ 20000), gAdd, gAug, (by omega : (rowT wLine h.l3).length + 1 + (txt (rws wKey h.ks)).length ≤ 16777216), (by omega : (rowT wLine h.l3).length + ((txt (rws wKey h.ks)).length + 1) + TP.length ≤ 16777216), (by omega : (rowT wLine h.l3).length + ((txt (rws wKey h.ks)).length + TP.length + 1) + ((rowT wPlaces h.ps).length + 1) ≤ 16777216), (by omega : (rowT wLine h.l3).length + ((txt (rws wKey h.ks)).length + (TP.length + ((rowT wPlaces h.ps).length + 1)) + 1) + ((rowT wTries [h.t]).length + 1) ≤ 16777216)]
/-! ### reading a house -/
theorem pins_len (P : List Pinning) : P.length ≤ (pinsR P).length := by
  induction P with
  | nil => simp
  | cons a P ih =>
    have : pinsR (a :: P) = pinR a ++ pinsR P := rfl
    rw [this, List.length_append, List.length_cons]
    simp [pinR]
    omega
theorem S_read_house {n q : Nat} (hn : n ≤ 200) {h : House} (o : HoOk n q h) (hl : (txt (hoR h)).length ≤ 20000) : F_read_house C [.str (txt (hoR h))] = .ok (hoD h) [] := by
  have ok := hoR_ok (by omega) o
  have hc := txt_count (hoR h)
  have d0 : (hoR h).drop 1 = rws wKey h.ks ++ (pinsR h.P ++ [(wPlaces, h.ps), (wTries, [h.t])]) := rfl
  obtain ⟨t1, d1⟩ := T_rows (C := C) ok hl d0 (by
    intro r hr
    cases hP : h.P with
    | nil =>
      rw [hP] at hr
      cases hr
      show wPlaces ≠ wKey
      decide
    | cons a b =>
      rw [hP] at hr
      cases hr
      show wPing ≠ wKey
      decide)
  have p0 : peekR (hoR h) 0 [(.str wLine, .int 3)] = .tup [.str wLine, .tup (h.l3.map .int)] := peek_hit_n (r := (wLine, h.l3)) (n := 3) rfl rfl o.l3.1
  have tk0 := S_take (C := C) ok hl one_m p0
  generalize hR : hoR h = R at *
  have hPl := pins_len h.P
  have hbig : (pinsR h.P).length ≤ R.length := by
    have := congrArg List.length d1
    rw [List.length_drop, List.length_append] at this
    omega
  have wh : ∀ (j i k : Nat), j + i = h.P.length → R.drop k = pinsR (h.P.drop i) ++ [(wPlaces, h.ps), (wTries, [h.t])] → ∃ k2, R.drop k2 = [(wPlaces, h.ps), (wTries, [h.t])] ∧ loopW (mTest (mOp gNotN (mCons (mMeth C "peek" [true, false] (F_Lines_peek C) (mVar 1) (mCons (mFrz (mDic (mCons (mC (.str [112, 105, 110, 110, 105, 110, 103])) (mCons (mC (.int 0)) (mNil))))) (mNil))) (mCons (mC .non) mNil))))
      (mSeq (mExpr (mMeth C "take" [true, false] (F_Lines_take C) (mVar 1) (mCons (mFrz (mDic (mCons (mC (.str [112, 105, 110, 110, 105, 110, 103])) (mCons (mC (.int 0)) (mNil))))) (mNil)))) (mExpr (mMut 4 gApp (mCons (mCall [true] (F_locks_of C) (mCons (mVar 1) (mNil))) (mNil))))) (j + 1)
      [some (.str (txt R)), some (rd C R k), some (.tup (h.l3.map .int)), some (.tup (h.ks.map tupI)), some (.own ((h.P.take i).map pinD)), none, none] = .nx [some (.str (txt R)), some (rd C R k2), some (.tup (h.l3.map .int)), some (.tup (h.ks.map tupI)), some (.own (h.P.map pinD)), none, none] := by
    intro j
    induction j with
    | zero =>
      intro i k hi hd
      rw [List.drop_of_length_le (by omega : h.P.length ≤ i)] at hd
      have hd : R.drop k = [(wPlaces, h.ps), (wTries, [h.t])] := hd
      rw [List.take_of_length_le (by omega)]
      refine ⟨k, hd, while_end ?_⟩
      have hm : peekR R k [(.str wPing, .int 0)] = .non := peek_miss fun r hr => by
        rw [(drop_get hd).1] at hr
        cases hr
        show wPlaces ≠ wPing
        decide
      simp [mDef, startD, mSeq, mSet, mRet, mRetN, mExpr, mIfS, mNop, mCons, mNil, mOp, mC, mVar, mFrz, mMov, mIf, mTest, mTru, mAnd, mOr, mNot, mAndV, mOrV, mNotV, mInt, viewL, view, isImm, mIt, itemsOf, mLC, mFor, mStr1, mTup, mLst, mCall, takeA, putA, mMeth, insAt, mMake, noBrw, mMut, lstAt, mChain, mFld, objAt, mSetF, mAugF, ioOf, mDic, pairD, mAsg, isSto, wipeL, dk, f_2, S_peek ok hl one_m, hm, gNotN, FM.isNon]
    | succ j ih =>
      intro i k hi hd
      have hlt : i < h.P.length := by omega
      have e0 : h.P[i]? = some h.P[i] := List.getElem?_eq_getElem hlt
      have ed : h.P.drop i = h.P[i] :: h.P.drop (i + 1) := List.drop_eq_getElem_cons hlt
      generalize h.P[i] = p at e0 ed
      have hd1 : R.drop k = (wPing, []) :: (locksR p ++ (pinsR (h.P.drop (i + 1)) ++ [(wPlaces, h.ps), (wTries, [h.t])])) := by
        rw [hd, ed]
        simp [pinsR, pinR]
      obtain ⟨g1, g2⟩ := drop_get hd1
      obtain ⟨t1, t2⟩ := S_locks_of (C := C) ok hl g2 (by
        intro r hr
        cases hx : h.P.drop (i + 1) with
        | nil =>
          rw [hx] at hr
          cases hr
          show wPlaces ≠ wLock ∧ wPlaces ≠ wCham
          decide
        | cons a b =>
          rw [hx] at hr
          cases hr
          show wPing ≠ wLock ∧ wPing ≠ wCham
          decide)
      have hp : peekR R k [(.str wPing, .int (0 : Nat))] = .tup [.str wPing, .tup (([] : List Int).map .int)] := peek_hit_n (n := 0) g1 rfl rfl
      have hp : peekR R k [(.str wPing, .int 0)] = .tup [.str wPing, .tup (([] : List Int).map .int)] := hp
      obtain ⟨k2, e2, hy⟩ := ih (i + 1) (k + 1 + (locksR p).length) (by omega) t2
      refine ⟨k2, e2, while_step (l1 := [some (.str (txt R)), some (rd C R k), some (.tup (h.l3.map .int)), some (.tup (h.ks.map tupI)), some (.own ((h.P.take i).map pinD)), none, none]) ?_ ?_ hy⟩
      · simp [mDef, startD, mSeq, mSet, mRet, mRetN, mExpr, mIfS, mNop, mCons, mNil, mOp, mC, mVar, mFrz, mMov, mIf, mTest, mTru, mAnd, mOr, mNot, mAndV, mOrV, mNotV, mInt, viewL, view, isImm, mIt, itemsOf, mLC, mFor, mStr1, mTup, mLst, mCall, takeA, putA, mMeth, insAt, mMake, noBrw, mMut, lstAt, mChain, mFld, objAt, mSetF, mAugF, ioOf, mDic, pairD, mAsg, isSto, wipeL, dk, f_2, S_peek ok hl one_m, hp, gNotN, FM.isNon]
      · have ht : (h.P.take i).length < 16777216 := by
          rw [List.length_take]
          omega
        simp at ht
        have tk := S_take (C := C) ok hl one_m hp
        simp at tk
        simp [mDef, startD, mSeq, mSet, mRet, mRetN, mExpr, mIfS, mNop, mCons, mNil, mOp, mC, mVar, mFrz, mMov, mIf, mTest, mTru, mAnd, mOr, mNot, mAndV, mOrV, mNotV, mInt, viewL, view, isImm, mIt, itemsOf, mLC, mFor, mStr1, mTup, mLst, mCall, takeA, putA, mMeth, insAt, mMake, noBrw, mMut, lstAt, mChain, mFld, objAt, mSetF, mAugF, ioOf, mDic, pairD, mAsg, isSto, wipeL, dk, f_3, tk, t1, gApp, ht]
        rw [List.take_add_one]
        simp [e0, pinD]
  obtain ⟨k2, e2, hy⟩ := wh h.P.length 0 (1 + h.ks.length) (by omega) d1
  have hw := mWhile_eq (h.P.length + 1) hy (by simp)
  obtain ⟨g1, e3⟩ := drop_get e2
  obtain ⟨g2, e4⟩ := drop_get e3
  have p1 := peek_hit g1 rfl
  have p2 : peekR R (k2 + 1) [(.str wTries, .int 1)] = .tup [.str wTries, .tup ([h.t].map .int)] := peek_hit_n (n := 1) g2 rfl rfl
  have k1 := S_take (C := C) ok hl one_m p1
  have kt := S_take (C := C) ok hl one_m p2
  have fin := S_finish (C := C) (drop_end e4)
  simp only [List.map_cons, List.map_nil] at kt
  simp at hw
  unfold F_read_house m_read_house
  simp [mDef, startD, mSeq, mSet, mRet, mRetN, mExpr, mIfS, mNop, mCons, mNil, mOp, mC, mVar, mFrz, mMov, mIf, mTest, mTru, mAnd, mOr, mNot, mAndV, mOrV, mNotV, mInt, viewL, view, isImm, mIt, itemsOf, mLC, mFor, mStr1, mTup, mLst, mCall, takeA, putA, mMeth, insAt, mMake, noBrw, mMut, lstAt, mChain, mFld, objAt, mSetF, mAugF, ioOf, mDic, pairD, mAsg, isSto, wipeL, S_init ok hl, f_3, f_4, dk, gNeg, tk0, gIx, atI_zero, atI_one, t1, hw, k1, kt, fin, gTuple, hoD, tupI]
end K84

set_option maxHeartbeats 1000000
namespace K84
open FM L2
open PySem (Str Addr)
variable {C : Addr}
theorem S_stands {ns js : List Int} {m : Nat} (hm : m ≤ 1000) : ∃ (A : List Stand) (ks : List Int), F__law_any_stands C [.lst (ns.map .int), .own (js.map .int), .int (m : Int)] = .ok (.tup (A.map stD)) [.own (ks.map .int)] ∧ A.length = m ∧ ∀ s ∈ A, StOk 4 s := by
  obtain ⟨l', e1, js', A, x4, x5, x6, h1, h2, h3⟩ := for_inv (t := gN 4) (b := mSeq (mSet 5 (mCall [false, true, false] (F__law_tuples C) (mCons (mVar 0) (mCons (mVar 1) (mCons (mCall [true, false] (F__law_take C) (mCons (mVar 1) (mCons (mC (.int 4)) (mNil)))) (mNil)))))) (mSeq (mSet 6 (mCall [false, true, false] (F__law_some_numbers C) (mCons (mVar 0) (mCons (mVar 1) (mCons (mCall [true, false] (F__law_take C) (mCons (mVar 1) (mCons (mC (.int 4)) (mNil)))) (mNil)))))) (mExpr (mMut 3 gApp (mCons (mTup (mCons (mVar 5) (mCons (mVar 6) (mCons (mCall [false, true] (F__law_any_number C) (mCons (mVar 0) (mCons (mVar 1) (mNil)))) (mNil))))) (mNil))))))
    (P := fun rest l => ∃ (js : List Int) (A : List Stand) (x4 x5 x6 : Option D), A.length + rest.length = m ∧ (∀ s ∈ A, StOk 4 s) ∧ l = [some (.lst (ns.map .int)), some (.own (js.map .int)), some (.int (m : Int)), some (.own (A.map stD)), x4, x5, x6]) (by
      intro d rest l ⟨js, A, x4, x5, x6, h1, h2, h3⟩
      subst h3
      rw [List.length_cons] at h1
      obtain ⟨a, j1, e1, a1, a2⟩ := S_take' (C := C) (is := js) (m := 4) (by decide)
      obtain ⟨na, rfl, hna⟩ := nat_of a1 a2
      obtain ⟨K, j2, e2, hK, kK⟩ := S_tuples (C := C) (ns := ns) (js := j1) (m := na) (by omega)
      obtain ⟨b, j3, e3, b1, b2⟩ := S_take' (C := C) (is := j2) (m := 4) (by decide)
      obtain ⟨nb, rfl, hnb⟩ := nat_of b1 b2
      obtain ⟨is, j4, e4, his⟩ := S_some (C := C) (ns := ns) (js := j3) (m := nb) (by omega)
      obtain ⟨t, j5, e5, ht⟩ := S_any (C := C) (ns := ns) (is := j4)
      have hA : A.length < 16777216 := by omega
      have o : StOk 4 (Stand.mk K is t) := ⟨by show K.length ≤ 4; omega, kK, by show is.length ≤ 4; have := his.1; omega, his.2, ht⟩
      refine ⟨_, [some (.lst (ns.map .int)), some (.own (j5.map .int)), some (.int (m : Int)), some (.own ((A ++ [Stand.mk K is t]).map stD)), some d, some (.tup (K.map tupI)), some (tupI is)], rfl, ?_, j5, A ++ [Stand.mk K is t], _, _, _, by rw [List.length_append, List.length_singleton]; omega, fun s hs => ?_, rfl⟩
      · simp only [gN, List.set_cons_succ, List.set_cons_zero]
        simp only [tupI] at e4 ⊢
        simp [mDef, startD, mSeq, mSet, mRet, mRetN, mExpr, mIfS, mNop, mCons, mNil, mOp, mC, mVar, mFrz, mMov, mIf, mTest, mTru, mAnd, mOr, mNot, mAndV, mOrV, mNotV, mInt, viewL, view, isImm, mIt, itemsOf, mLC, mFor, mStr1, mTup, mLst, mCall, takeA, putA, mMeth, insAt, mMake, noBrw, mMut, lstAt, mChain, mFld, objAt, mSetF, mAugF, ioOf, mDic, pairD, mAsg, isSto, wipeL, e1, e2, e3, e4, e5, gApp, hA, stD, tupI]
      · rcases List.mem_append.mp hs with z | z
        · exact h2 s z
        · rw [List.mem_singleton.mp z]
          exact o)
    (ds := rangeD 0 m) (l := [some (.lst (ns.map .int)), some (.own (js.map .int)), some (.int (m : Int)), some (.own []), none, none, none]) ⟨js, [], none, none, none, by rw [rng_len]; simp, (fun s hs => by cases hs), rfl⟩
  subst h3
  have hr := rng_ev (me := mVar 2) (l := [some (.lst (ns.map .int)), some (.own (js.map .int)), some (.int (m : Int)), some (.own []), none, none, none]) (m := m) rfl (by omega)
  refine ⟨A, js', ?_, by simpa using h1, h2⟩
  unfold F__law_any_stands m__law_any_stands
  simp [mDef, startD, mSeq, mSet, mRet, mRetN, mExpr, mIfS, mNop, mCons, mNil, mOp, mC, mVar, mFrz, mMov, mIf, mTest, mTru, mAnd, mOr, mNot, mAndV, mOrV, mNotV, mInt, viewL, view, isImm, mIt, itemsOf, mLC, mFor, mStr1, mTup, mLst, mCall, takeA, putA, mMeth, insAt, mMake, noBrw, mMut, lstAt, mChain, mFld, objAt, mSetF, mAugF, ioOf, mDic, pairD, mAsg, isSto, wipeL, hr, e1, gTuple]

inductive Val where
  | house (h : House) | stand (s : Stand)
def Val.k : Val → Int
  | .house _ => 0 | .stand _ => 1
def Val.d : Val → D
  | .house h => hoD h
  | .stand s => stD s
def Val.r : Val → List Row
  | .house h => hoR h
  | .stand s => stR s
def Val.Good (n q : Nat) : Val → Prop
  | .house h => HoOk n q h
  | .stand s => StOk n s
theorem un_pins {R : Pinning → Prop} : ∀ {ys : List D}, (∀ y ∈ ys, ∃ is : Pinning, y = pinD is ∧ R is) → ∃ A : List Pinning, ys = A.map pinD ∧ ∀ is ∈ A, R is
  | [], _ => ⟨[], rfl, fun _ h => by cases h⟩
  | y :: ys, h => by
    obtain ⟨is, rfl, h1⟩ := h y List.mem_cons_self
    obtain ⟨A, rfl, h2⟩ := un_pins (ys := ys) fun z hz => h z (List.mem_cons_of_mem _ hz)
    refine ⟨is :: A, rfl, fun z hz => ?_⟩
    rcases List.mem_cons.mp hz with e | e
    · rw [e]
      exact h1
    · exact h2 z e
theorem S_value {ns js : List Int} {k : Int} (hk : k = 0 ∨ k = 1) : ∃ (v : Val) (ks : List Int), F__law_two_value C [.lst (ns.map .int), .own (js.map .int), .int k] = .ok v.d [.own (ks.map .int)] ∧ v.k = k ∧ v.Good 4 3 := by
  unfold F__law_two_value m__law_two_value
  rcases hk with rfl | rfl
  · obtain ⟨a, j1, e1, a1, a2⟩ := S_take' (C := C) (is := js) (m := 4) (by decide)
    obtain ⟨n, rfl, hn⟩ := nat_of a1 a2
    obtain ⟨A, j2, e2, hA, kA⟩ := S_tuples (C := C) (ns := ns) (js := j1) (m := n) (by omega)
    obtain ⟨b, j3, e3, b1, b2⟩ := S_take' (C := C) (is := j2) (m := 4) (by decide)
    obtain ⟨m, rfl, hm⟩ := nat_of b1 b2
    obtain ⟨ys, l', h1, ⟨j4, rfl⟩, h3, h4⟩ := lc_inv (v := 6) (te := mCall [false, true, false] (F__law_any_locks C) (mCons (mVar 0) (mCons (mVar 1) (mCons (mCall [true, false] (F__law_take C) (mCons (mVar 1) (mCons (mC (.int 4)) (mNil)))) (mNil)))))
      (P := fun l => ∃ ks : List Int, l = [some (.lst (ns.map .int)), some (.own (ks.map .int)), some (.int 0), some (.tup (A.map tupI)), none, none, none]) (R := fun y => ∃ p, y = pinD p ∧ PinOk p)
      (ds := rangeD 0 m) (acc := []) (l := [some (.lst (ns.map .int)), some (.own (j3.map .int)), some (.int 0), some (.tup (A.map tupI)), none, none, none]) ⟨j3, rfl⟩ (by
        intro d hd l ⟨ks, hl⟩
        subst hl
        obtain ⟨a, k1, e1, a1, a2⟩ := S_take' (C := C) (is := ks) (m := 4) (by decide)
        obtain ⟨n, rfl, hn⟩ := nat_of a1 a2
        obtain ⟨L, k2, e, hl, hs⟩ := S_any_locks (C := C) (ns := ns) (js := k1) (m := n) (by omega)
        refine ⟨pinD L, [some (.lst (ns.map .int)), some (.own (k2.map .int)), some (.int 0), some (.tup (A.map tupI)), none, none, some d], ?_, rfl, ⟨L, rfl, by omega, hs⟩, k2, rfl⟩
        simp [mDef, startD, mSeq, mSet, mRet, mRetN, mExpr, mIfS, mNop, mCons, mNil, mOp, mC, mVar, mFrz, mMov, mIf, mTest, mTru, mAnd, mOr, mNot, mAndV, mOrV, mNotV, mInt, viewL, view, isImm, mIt, itemsOf, mLC, mFor, mStr1, mTup, mLst, mCall, takeA, putA, mMeth, insAt, mMake, noBrw, mMut, lstAt, mChain, mFld, objAt, mSetF, mAugF, ioOf, mDic, pairD, mAsg, isSto, wipeL, e1, e, pinD]) (by rw [rng_len]; simp; omega)
    obtain ⟨P, rfl, hP⟩ := un_pins h4
    rw [rng_len, List.length_map] at h3
    obtain ⟨c, j5, e5, c1, c2⟩ := S_take' (C := C) (is := j4) (m := 5) (by decide)
    obtain ⟨m2, rfl, hm2⟩ := nat_of c1 c2
    obtain ⟨ps, j6, e6, h6⟩ := S_some (C := C) (ns := ns) (js := j5) (m := m2) (by omega)
    obtain ⟨l3, j7, e7, h7⟩ := S_some (C := C) (ns := ns) (js := j6) (m := 3) (by omega)
    have e7 : F__law_some_numbers C [.lst (ns.map .int), .own (j6.map .int), .int 3] = .ok (tupI l3) [.own (j7.map .int)] := e7
    obtain ⟨t, j8, e8, ht⟩ := S_any (C := C) (ns := ns) (is := j7)
    have hr := rng_ev (me := mCall [true, false] (F__law_take C) (mCons (mVar 1) (mCons (mC (.int 4)) (mNil)))) (l := [some (.lst (ns.map .int)), some (.own (j2.map .int)), some (.int 0), some (.tup (A.map tupI)), none, none, none]) (l1 := [some (.lst (ns.map .int)), some (.own (j3.map .int)), some (.int 0), some (.tup (A.map tupI)), none, none, none]) (m := m) (by simp [mDef, startD, mSeq, mSet, mRet, mRetN, mExpr, mIfS, mNop, mCons, mNil, mOp, mC, mVar, mFrz, mMov, mIf, mTest, mTru, mAnd, mOr, mNot, mAndV, mOrV, mNotV, mInt, viewL, view, isImm, mIt, itemsOf, mLC, mFor, mStr1, mTup, mLst, mCall, takeA, putA, mMeth, insAt, mMake, noBrw, mMut, lstAt, mChain, mFld, objAt, mSetF, mAugF, ioOf, mDic, pairD, mAsg, isSto, wipeL, e3]) (by omega)
    have h6l := h6.1
    refine ⟨.house ⟨l3, A, P, ps, t⟩, j8, ?_, rfl, ⟨h7, ⟨by show A.length ≤ 4; omega, kA⟩, ⟨by show P.length ≤ 3; omega, hP⟩, ⟨by show ps.length ≤ 4; omega, h6.2⟩, ht⟩⟩
    simp only [List.nil_append] at h1
    simp only [tupI] at e6 e7
    simp [mDef, startD, mSeq, mSet, mRet, mRetN, mExpr, mIfS, mNop, mCons, mNil, mOp, mC, mVar, mFrz, mMov, mIf, mTest, mTru, mAnd, mOr, mNot, mAndV, mOrV, mNotV, mInt, viewL, view, isImm, mIt, itemsOf, mLC, mFor, mStr1, mTup, mLst, mCall, takeA, putA, mMeth, insAt, mMake, noBrw, mMut, lstAt, mChain, mFld, objAt, mSetF, mAugF, ioOf, mDic, pairD, mAsg, isSto, wipeL, e1, e2, hr, h1, e5, e6, e7, e8, gEq, sc2, deq, gTuple, Val.d, hoD, tupI]
  · obtain ⟨A, k2, e2, hA, oA⟩ := S_stands (C := C) (ns := ns) (js := js) (m := 1) (by omega)
    obtain ⟨s, rfl⟩ : ∃ s, A = [s] := by
      cases A with
      | nil => simp at hA
      | cons s B =>
        cases B with
        | nil => exact ⟨s, rfl⟩
        | cons x y => simp at hA
    have e2 : F__law_any_stands C [.lst (ns.map .int), .own (js.map .int), .int 1] = .ok (.tup [stD s]) [.own (k2.map .int)] := e2
    refine ⟨.stand s, k2, ?_, rfl, oA s List.mem_cons_self⟩
    simp only [stD] at e2
    simp [mDef, startD, mSeq, mSet, mRet, mRetN, mExpr, mIfS, mNop, mCons, mNil, mOp, mC, mVar, mFrz, mMov, mIf, mTest, mTru, mAnd, mOr, mNot, mAndV, mOrV, mNotV, mInt, viewL, view, isImm, mIt, itemsOf, mLC, mFor, mStr1, mTup, mLst, mCall, takeA, putA, mMeth, insAt, mMake, noBrw, mMut, lstAt, mChain, mFld, objAt, mSetF, mAugF, ioOf, mDic, pairD, mAsg, isSto, wipeL, e2, gIx, atI_zero, gEq, sc2, deq, Val.d, stD]

theorem mem3 {α : Type} {a b c d : α} (h : d ∈ [a, b, c]) : d = a ∨ d = b ∨ d = c := by simpa using h
theorem same_st {n : Nat} (hn : n ≤ 300) {s : Stand} (h : StOk n s) : SameN C 4 (stD s) := same_tup (n := 3) (by simp) fun d hd => by
  rcases mem3 hd with rfl | rfl | rfl
  · exact same_keys (by have := h.1; omega) fun is hi => by have := (h.2.1 is hi).1; omega
  · exact (same_tupI (by have := h.2.2.1; omega)).mono (by omega)
  · exact (same_int _).mono (by omega)
theorem same_pin {p : Pinning} (h : PinOk p) : SameN C 4 (pinD p) := same_tup (n := 3) (by have := h.1; simp; omega) fun d hd => by
  obtain ⟨lk, hl, rfl⟩ := List.mem_map.mp hd
  have a := h.2 lk hl
  exact same_keys (by omega) fun is hi => by have := (a.2 is hi).1; omega
theorem same_ho {n q : Nat} (hn : n ≤ 300) (hq : q ≤ 300) {h : House} (o : HoOk n q h) : SameN C 6 (hoD h) := same_tup (n := 5) (by simp) fun d hd => by
  have hd : d = tupI h.l3 ∨ d = .tup (h.ks.map tupI) ∨ d = .tup (h.P.map pinD) ∨ d = tupI h.ps ∨ d = .int h.t := by simpa using hd
  rcases hd with rfl | rfl | rfl | rfl | rfl
  · exact (same_tupI (by have := o.l3.1; omega)).mono (by omega)
  · exact (same_keys (by have := o.ks.1; omega) fun is hi => by have := (o.ks.2 is hi).1; omega).mono (by omega)
  · refine same_tup (n := 4) (by have := o.P.1; simp; omega) fun d hd => ?_
    obtain ⟨p, hp, rfl⟩ := List.mem_map.mp hd
    exact same_pin (o.P.2 p hp)
  · exact (same_tupI (by have := o.ps.1; omega)).mono (by omega)
  · exact (same_int _).mono (by omega)
theorem S_same {v : Val} (h : v.Good 200 27) : F__law_same C [v.d, v.d] = .ok (.bl true) [] := by
  refine (?_ : SameN C 6 v.d) 7 (by omega)
  cases v with
  | house h' => exact same_ho (by omega) (by omega) h
  | stand s => exact (same_st (by omega) h).mono (by omega)
theorem good_ok {v : Val} (h : v.Good 200 27) : Ok v.r := by
  cases v with
  | house h' => exact hoR_ok (by omega) h
  | stand s => exact stR_ok (by omega) h
theorem good_len {v : Val} (h : v.Good 200 27) : v.r.length ≤ 700 := by
  cases v with
  | house h' =>
    have := hoR_len h
    show (hoR h').length ≤ _
    omega
  | stand s =>
    have := stR_len h
    show (stR s).length ≤ _
    omega

theorem atI_three {α : Type} (x y z w : α) (l : List α) : atI (x :: y :: z :: w :: l) 3 = some w := by
  have h : ixN (x :: y :: z :: w :: l).length 3 = some 3 := by
    simp [ixN]
    omega
  unfold atI
  rw [h]
  rfl
theorem atI_four {α : Type} (x y z w v : α) (l : List α) : atI (x :: y :: z :: w :: v :: l) 4 = some v := by
  have h : ixN (x :: y :: z :: w :: v :: l).length 4 = some 4 := by
    simp [ixN]
    omega
  unfold atI
  rw [h]
  rfl
theorem S_stand_lines {s : Stand} {n : Nat} (hn : n ≤ 300) (h : StOk n s) : F__law_stand_lines C [stD s] = .ok (.own ((stR s).map (D.str ∘ lineT))) [] := by
  have ok := stR_ok hn h
  obtain ⟨h1, h2, h3, h4, h5⟩ := h
  have o1 : Ok (rws wKey s.ks) := ok_keys h2 (by decide)
  have o2 : RowOk wPin s.ps := ok (wPin, s.ps) (by simp [stR])
  have o3 : RowOk wTries [s.t] := ok (wTries, [s.t]) (by simp [stR])
  have e := lc_text (C := C) (v := 2) (l := [some (stD s), none, none]) rfl (by simp) (ok_rws.mp o1) (by omega)
  have s2 := S_text_line (C := C) o2
  have s3 := S_text_line (C := C) o3
  have er : (stR s).map (D.str ∘ lineT) = s.ks.map (D.str ∘ fun is => lineT (wKey, is)) ++ [.str (rowT wPin s.ps), .str (rowT wTries [s.t])] := by
    unfold stR
    rw [rows_app, rows_rws]
    rfl
  rw [er]
  unfold F__law_stand_lines m__law_stand_lines
  simp only [stD, tupI, List.map_cons, List.map_nil] at e s3 ⊢
  simp [mDef, startD, mSeq, mSet, mRet, mRetN, mExpr, mIfS, mNop, mCons, mNil, mOp, mC, mVar, mFrz, mMov, mIf, mTest, mTru, mAnd, mOr, mNot, mAndV, mOrV, mNotV, mInt, viewL, view, isImm, mIt, itemsOf, mLC, mFor, mStr1, mTup, mLst, mCall, takeA, putA, mMeth, insAt, mMake, noBrw, mMut, lstAt, mChain, mFld, objAt, mSetF, mAugF, ioOf, mDic, pairD, mAsg, isSto, wipeL, gIx, atI_zero, atI_one, atI_two, e, s2, s3, gAdd, (by omega : s.ks.length + 2 ≤ 16777216), (by omega : s.ks.length ≤ 16777214)]

theorem S_house_lines {n q : Nat} (hn : n ≤ 300) (hq : q ≤ 300) {h : House} (o : HoOk n q h) : F__law_house_lines C [hoD h] = .ok (.own ((hoR h).map (D.str ∘ lineT))) [] := by
  have ok := hoR_ok hn o
  have o1 : RowOk wLine h.l3 := ok (wLine, h.l3) List.mem_cons_self
  have o2 : Ok (rws wKey h.ks) := ok_keys o.ks.2 (by decide)
  have o3 : RowOk wPlaces h.ps := ok (wPlaces, h.ps) (by simp [hoR])
  have o4 : RowOk wTries [h.t] := ok (wTries, [h.t]) (by simp [hoR])
  have s1 := S_text_line (C := C) o1
  have s3 := S_text_line (C := C) o3
  have s4 := S_text_line (C := C) o4
  have hk := o.ks.1
  have hp := o.P.1
  have e1 := lc_text (C := C) (v := 3) (l := [some (hoD h), none, none, none]) rfl (by simp) (ok_rws.mp o2) (by omega)
  obtain ⟨l', f1, A1, A2, x2, g1, g2, g3⟩ := for_inv (t := gN 2) (b := mSet 1 (mFrz (mOp gAdd (mCons (mOp gAdd (mCons (mVar 1) (mCons (mLst (mCons (mC (.str [112, 105, 110, 110, 105, 110, 103])) (mNil))) mNil))) (mCons (mCall [false] (F__law_lock_lines C) (mCons (mVar 2) (mNil))) mNil)))))
    (P := fun rest l => ∃ (A1 A2 : List Pinning) (x2 : Option D), h.P = A1 ++ A2 ∧ rest = A2.map pinD ∧ l = [some (hoD h), some (.lst (.str (rowT wLine h.l3) :: (h.ks.map (D.str ∘ fun is => lineT (wKey, is)) ++ (pinsR A1).map (D.str ∘ lineT)))), x2, none]) (by
      intro d rest l ⟨A1, A2, x2, g1, g2, g3⟩
      subst g3
      cases A2 with
      | nil => cases g2
      | cons p A2 =>
        cases g2
        have op := o.P.2 p (by rw [g1]; simp)
        have h1 : ∀ q ∈ A1, PinOk q := fun q hq => o.P.2 q (by rw [g1]; simp [hq])
        have hl : A1.length ≤ q := by
          have := congrArg List.length g1
          rw [List.length_append] at this
          omega
        have c2 := pinsR_len h1
        have c3 := locks_len op.2
        have c4 := op.1
        have w := S_lock_lines (C := C) (locks_ok op.2) (by omega) (fun lk hl => by have := (op.2 lk hl).1; omega)
        have er : (pinsR (A1 ++ [p])).map (D.str ∘ lineT) = (pinsR A1).map (D.str ∘ lineT) ++ (.str wPing :: (locksR p).map (D.str ∘ lineT)) := by
          simp [pinsR, pinR]
          rfl
        refine ⟨[some (hoD h), some (.lst (.str (rowT wLine h.l3) :: (h.ks.map (D.str ∘ fun is => lineT (wKey, is)) ++ (pinsR A1).map (D.str ∘ lineT)))), some (pinD p), none], [some (hoD h), some (.lst (.str (rowT wLine h.l3) :: (h.ks.map (D.str ∘ fun is => lineT (wKey, is)) ++ (pinsR (A1 ++ [p])).map (D.str ∘ lineT)))), some (pinD p), none], rfl, ?_, A1 ++ [p], A2, _, by rw [g1]; simp, rfl, rfl⟩
        rw [er]
        simp only [pinD] at w ⊢
        simp [mDef, startD, mSeq, mSet, mRet, mRetN, mExpr, mIfS, mNop, mCons, mNil, mOp, mC, mVar, mFrz, mMov, mIf, mTest, mTru, mAnd, mOr, mNot, mAndV, mOrV, mNotV, mInt, viewL, view, isImm, mIt, itemsOf, mLC, mFor, mStr1, mTup, mLst, mCall, takeA, putA, mMeth, insAt, mMake, noBrw, mMut, lstAt, mChain, mFld, objAt, mSetF, mAugF, ioOf, mDic, pairD, mAsg, isSto, wipeL, w, gAdd, (by omega : h.ks.length + (pinsR A1).length + 1 ≤ 16777215), (by omega : h.ks.length + (pinsR A1).length ≤ 16777214), (by omega : h.ks.length + ((pinsR A1).length + 1) + 1 + (locksR p).length ≤ 16777216), (by omega : h.ks.length + (pinsR A1).length + 1 + 1 + (locksR p).length ≤ 16777216)])
    (ds := h.P.map pinD) (l := [some (hoD h), some (.lst (.str (rowT wLine h.l3) :: h.ks.map (D.str ∘ fun is => lineT (wKey, is)))), none, none]) ⟨[], h.P, none, rfl, rfl, by simp [pinsR]⟩
  have g2 : A2 = [] := by
    cases A2 with
    | nil => rfl
    | cons a b => cases g2
  subst g2
  rw [List.append_nil] at g1
  subst g3
  rw [← g1] at f1
  have c6 := pinsR_len o.P.2
  have er : (hoR h).map (D.str ∘ lineT) = .str (rowT wLine h.l3) :: (h.ks.map (D.str ∘ fun is => lineT (wKey, is)) ++ ((pinsR h.P).map (D.str ∘ lineT) ++ [.str (rowT wPlaces h.ps), .str (rowT wTries [h.t])])) := by
    unfold hoR
    rw [List.map_cons, rows_app, rows_app, rows_rws]
    rfl
  rw [er]
  generalize pinsR h.P = R at *
  unfold F__law_house_lines m__law_house_lines
  simp only [hoD, tupI, List.map_cons, List.map_nil] at e1 f1 s4 ⊢
  simp [mDef, startD, mSeq, mSet, mRet, mRetN, mExpr, mIfS, mNop, mCons, mNil, mOp, mC, mVar, mFrz, mMov, mIf, mTest, mTru, mAnd, mOr, mNot, mAndV, mOrV, mNotV, mInt, viewL, view, isImm, mIt, itemsOf, mLC, mFor, mStr1, mTup, mLst, mCall, takeA, putA, mMeth, insAt, mMake, noBrw, mMut, lstAt, mChain, mFld, objAt, mSetF, mAugF, ioOf, mDic, pairD, mAsg, isSto, wipeL, gIx, atI_zero, atI_one, atI_two, atI_three, atI_four, s1, s3, s4, e1, f1, gAdd, (by omega : 1 + h.ks.length ≤ 16777216), (by omega : h.ks.length + R.length ≤ 16777213), (by omega : h.ks.length + R.length + 1 ≤ 16777214)]
end K84

set_option maxHeartbeats 1000000
namespace K84
open FM L2
open PySem (Str Addr)
variable {C : Addr}
theorem S_lines {v : Val} (h : v.Good 200 27) : F__law_two_lines C [.int v.k, v.d] = .ok (.own (v.r.map (D.str ∘ lineT))) [] := by
  unfold F__law_two_lines m__law_two_lines
  cases v with
  | house A =>
    have s := S_house_lines (C := C) (by omega) (by omega) h
    simp only [hoD] at s
    simp [mDef, startD, mSeq, mSet, mRet, mRetN, mExpr, mIfS, mNop, mCons, mNil, mOp, mC, mVar, mFrz, mMov, mIf, mTest, mTru, mAnd, mOr, mNot, mAndV, mOrV, mNotV, mInt, viewL, view, isImm, mIt, itemsOf, mLC, mFor, mStr1, mTup, mLst, mCall, takeA, putA, mMeth, insAt, mMake, noBrw, mMut, lstAt, mChain, mFld, objAt, mSetF, mAugF, ioOf, mDic, pairD, mAsg, isSto, wipeL, Val.k, Val.d, hoD, gEq, sc2, deq, s]
    rfl
  | stand A =>
    have s := S_stand_lines (C := C) (by omega) h
    simp only [stD] at s
    simp [mDef, startD, mSeq, mSet, mRet, mRetN, mExpr, mIfS, mNop, mCons, mNil, mOp, mC, mVar, mFrz, mMov, mIf, mTest, mTru, mAnd, mOr, mNot, mAndV, mOrV, mNotV, mInt, viewL, view, isImm, mIt, itemsOf, mLC, mFor, mStr1, mTup, mLst, mCall, takeA, putA, mMeth, insAt, mMake, noBrw, mMut, lstAt, mChain, mFld, objAt, mSetF, mAugF, ioOf, mDic, pairD, mAsg, isSto, wipeL, Val.k, Val.d, stD, gEq, sc2, deq, s]
    rfl
theorem S_written {v : Val} (h : v.Good 200 27) : F__law_written C [.int v.k, v.d] = .ok (.str (txt v.r)) [] := by
  unfold F__law_written m__law_written
  cases v with
  | house A =>
    have s := S_write_house (C := C) (by omega) (by omega) h
    simp only [hoD] at s
    simp [mDef, startD, mSeq, mSet, mRet, mRetN, mExpr, mIfS, mNop, mCons, mNil, mOp, mC, mVar, mFrz, mMov, mIf, mTest, mTru, mAnd, mOr, mNot, mAndV, mOrV, mNotV, mInt, viewL, view, isImm, mIt, itemsOf, mLC, mFor, mStr1, mTup, mLst, mCall, takeA, putA, mMeth, insAt, mMake, noBrw, mMut, lstAt, mChain, mFld, objAt, mSetF, mAugF, ioOf, mDic, pairD, mAsg, isSto, wipeL, Val.k, Val.d, hoD, gEq, sc2, deq, s]
    rfl
  | stand A =>
    have s := S_write_stand (C := C) (by omega) h
    simp only [stD] at s
    simp [mDef, startD, mSeq, mSet, mRet, mRetN, mExpr, mIfS, mNop, mCons, mNil, mOp, mC, mVar, mFrz, mMov, mIf, mTest, mTru, mAnd, mOr, mNot, mAndV, mOrV, mNotV, mInt, viewL, view, isImm, mIt, itemsOf, mLC, mFor, mStr1, mTup, mLst, mCall, takeA, putA, mMeth, insAt, mMake, noBrw, mMut, lstAt, mChain, mFld, objAt, mSetF, mAugF, ioOf, mDic, pairD, mAsg, isSto, wipeL, Val.k, Val.d, stD, gEq, sc2, deq, s]
    rfl
theorem S_told {v : Val} (h : v.Good 200 27) (hl : (txt v.r).length ≤ 20000) : F__law_told C [.int v.k, .str (txt v.r)] = .ok v.d [] := by
  unfold F__law_told m__law_told
  cases v with
  | house A =>
    have s := S_read_house (C := C) (by omega) h hl
    simp only [hoD] at s
    simp [mDef, startD, mSeq, mSet, mRet, mRetN, mExpr, mIfS, mNop, mCons, mNil, mOp, mC, mVar, mFrz, mMov, mIf, mTest, mTru, mAnd, mOr, mNot, mAndV, mOrV, mNotV, mInt, viewL, view, isImm, mIt, itemsOf, mLC, mFor, mStr1, mTup, mLst, mCall, takeA, putA, mMeth, insAt, mMake, noBrw, mMut, lstAt, mChain, mFld, objAt, mSetF, mAugF, ioOf, mDic, pairD, mAsg, isSto, wipeL, Val.k, Val.r, gEq, sc2, deq, s]
    rfl
  | stand A =>
    have s := S_read_stand (C := C) (by omega) h hl
    simp only [stD] at s
    simp [mDef, startD, mSeq, mSet, mRet, mRetN, mExpr, mIfS, mNop, mCons, mNil, mOp, mC, mVar, mFrz, mMov, mIf, mTest, mTru, mAnd, mOr, mNot, mAndV, mOrV, mNotV, mInt, viewL, view, isImm, mIt, itemsOf, mLC, mFor, mStr1, mTup, mLst, mCall, takeA, putA, mMeth, insAt, mMake, noBrw, mMut, lstAt, mChain, mFld, objAt, mSetF, mAugF, ioOf, mDic, pairD, mAsg, isSto, wipeL, Val.k, Val.r, gEq, sc2, deq, s]
    rfl
theorem d_tup (v : Val) : ∃ l, v.d = .tup l := by cases v <;> exact ⟨_, rfl⟩
theorem S_round {v : Val} (h : v.Good 200 27) : F__law_round C [.int v.k, v.d, .lst (v.r.map (D.str ∘ lineT))] = .ok (.bl true) [] := by
  have ok := good_ok h
  have len := good_len h
  have tl := txt_len ok
  have j := S_joined (C := C) ok (by omega)
  have s1 := S_written (C := C) h
  have s2 := S_same_str (C := C) (txt v.r)
  have s3 := S_same (C := C) h
  obtain ⟨l, hd⟩ := d_tup v
  have s4 : (txt v.r).length ≤ 20000 → _ := S_told (C := C) h
  rw [hd] at s1 s3 s4 ⊢
  generalize txt v.r = t at *
  generalize v.k = k at *
  unfold F__law_round m__law_round
  by_cases ht : 20000 < t.length
  · have ht' : decide ((20000 : Int) < (t.length : Int)) = true := decide_eq_true (by omega)
    simp [mDef, startD, mSeq, mSet, mRet, mRetN, mExpr, mIfS, mNop, mCons, mNil, mOp, mC, mVar, mFrz, mMov, mIf, mTest, mTru, mAnd, mOr, mNot, mAndV, mOrV, mNotV, mInt, viewL, view, isImm, mIt, itemsOf, mLC, mFor, mStr1, mTup, mLst, mCall, takeA, putA, mMeth, insAt, mMake, noBrw, mMut, lstAt, mChain, mFld, objAt, mSetF, mAugF, ioOf, mDic, pairD, mAsg, isSto, wipeL, j, gGt, gI0, gLen, (by omega : t.length ≤ 16777216), ht']
  · have s4 := s4 (by omega)
    have ht' : decide ((20000 : Int) < (t.length : Int)) = false := decide_eq_false (by omega)
    simp [mDef, startD, mSeq, mSet, mRet, mRetN, mExpr, mIfS, mNop, mCons, mNil, mOp, mC, mVar, mFrz, mMov, mIf, mTest, mTru, mAnd, mOr, mNot, mAndV, mOrV, mNotV, mInt, viewL, view, isImm, mIt, itemsOf, mLC, mFor, mStr1, mTup, mLst, mCall, takeA, putA, mMeth, insAt, mMake, noBrw, mMut, lstAt, mChain, mFld, objAt, mSetF, mAugF, ioOf, mDic, pairD, mAsg, isSto, wipeL, j, gGt, gI0, gLen, (by omega : t.length ≤ 16777216), ht', s1, s2, gTru, s4, s3]

theorem S_large {v : Val} {m : Nat} (h1 : 10 ≤ m) (hm : m ≤ 49) (h : v.Good 4 3) : ∃ v' : Val, F__law_large C [v.d, .int v.k, .int m] = .ok v'.d [] ∧ v'.k = v.k ∧ v'.Good 200 27 := by
  have c1 : (1 : Int) ≤ (m : Int) := by omega
  have c2 : (m : Int) ≤ 1000 := by omega
  have h1' : 1 ≤ m := by omega
  have hm' : m ≤ 1000 := by omega
  unfold F__law_large m__law_large
  cases v with
  | house H =>
    obtain ⟨g1, g2, g3, g4, g5⟩ := h
    obtain ⟨w, hw, w1, w2⟩ : ∃ w : Nat, (m : Int) / 5 = (w : Int) ∧ 1 ≤ w ∧ w ≤ 9 := ⟨((m : Int) / 5).toNat, by omega, by omega, by omega⟩
    have w3 : w ≤ 1000 := by omega
    have cw1 : (1 : Int) ≤ (w : Int) := by omega
    have cw2 : (w : Int) ≤ 1000 := by omega
    refine ⟨.house ⟨H.l3, (List.replicate m H.ks).flatten, (List.replicate w H.P).flatten, (List.replicate m H.ps).flatten, H.t⟩, ?_, rfl, ⟨g1, ⟨?_, fun is hi => g2.2 is (rep_mem hi)⟩, ⟨?_, fun p hp => g3.2 p (rep_mem hp)⟩, ⟨?_, fun i hi => g4.2 i (rep_mem hi)⟩, g5⟩⟩
    · have a1 := g2.1
      have a2 := g3.1
      have a3 := g4.1
      simp only [Val.d, hoD, tupI, ← rep_map]
      simp [mDef, startD, mSeq, mSet, mRet, mRetN, mExpr, mIfS, mNop, mCons, mNil, mOp, mC, mVar, mFrz, mMov, mIf, mTest, mTru, mAnd, mOr, mNot, mAndV, mOrV, mNotV, mInt, viewL, view, isImm, mIt, itemsOf, mLC, mFor, mStr1, mTup, mLst, mCall, takeA, putA, mMeth, insAt, mMake, noBrw, mMut, lstAt, mChain, mFld, objAt, mSetF, mAugF, ioOf, mDic, pairD, mAsg, isSto, wipeL, Val.k, gEq, sc2, deq, gIx, atI_zero, atI_one, atI_two, atI_three, atI_four, gMul, FM.gFdiv, gI, hw, h1', hm', w1, w3, cw1, cw2, c1, c2, (by omega : H.ks.length ≤ 1000), (by omega : H.P.length ≤ 1000), (by omega : H.ps.length ≤ 1000)]
    · show ((List.replicate m H.ks).flatten).length ≤ 200
      rw [rep_len]
      exact Nat.le_trans (Nat.mul_le_mul hm g2.1) (by decide)
    · show ((List.replicate w H.P).flatten).length ≤ 27
      rw [rep_len]
      exact Nat.le_trans (Nat.mul_le_mul w2 g3.1) (by decide)
    · show ((List.replicate m H.ps).flatten).length ≤ 200
      rw [rep_len]
      exact Nat.le_trans (Nat.mul_le_mul hm g4.1) (by decide)
  | stand s =>
    obtain ⟨a1, g2, a2, g4, g5⟩ := h
    refine ⟨.stand ⟨(List.replicate m s.ks).flatten, (List.replicate m s.ps).flatten, s.t⟩, ?_, rfl, ?_, fun is hi => g2 is (rep_mem hi), ?_, fun i hi => g4 i (rep_mem hi), g5⟩
    · simp only [Val.d, stD, tupI, ← rep_map]
      simp [mDef, startD, mSeq, mSet, mRet, mRetN, mExpr, mIfS, mNop, mCons, mNil, mOp, mC, mVar, mFrz, mMov, mIf, mTest, mTru, mAnd, mOr, mNot, mAndV, mOrV, mNotV, mInt, viewL, view, isImm, mIt, itemsOf, mLC, mFor, mStr1, mTup, mLst, mCall, takeA, putA, mMeth, insAt, mMake, noBrw, mMut, lstAt, mChain, mFld, objAt, mSetF, mAugF, ioOf, mDic, pairD, mAsg, isSto, wipeL, Val.k, gEq, sc2, deq, gIx, atI_zero, atI_one, atI_two, gMul, h1', hm', c1, c2, (by omega : s.ks.length ≤ 1000), (by omega : s.ps.length ≤ 1000)]
    · show ((List.replicate m s.ks).flatten).length ≤ 200
      rw [rep_len]
      exact Nat.le_trans (Nat.mul_le_mul hm a1) (by decide)
    · show ((List.replicate m s.ps).flatten).length ≤ 200
      rw [rep_len]
      exact Nat.le_trans (Nat.mul_le_mul hm a2) (by decide)
theorem good_up {v : Val} (h : v.Good 4 3) : v.Good 200 27 := by
  cases v with
  | house H => exact ⟨h.l3, ⟨Nat.le_trans h.ks.1 (by decide), h.ks.2⟩, ⟨Nat.le_trans h.P.1 (by decide), h.P.2⟩, ⟨Nat.le_trans h.ps.1 (by decide), h.ps.2⟩, h.t⟩
  | stand s => exact ⟨Nat.le_trans h.1 (by decide), h.2.1, Nat.le_trans h.2.2.1 (by decide), h.2.2.2.1, h.2.2.2.2⟩
theorem lines_of_val {v : Val} {L : List (List Nat)} (h : (v.r.map lineT) = L) : v.r.map (D.str ∘ lineT) = L.map D.str := by rw [← h, List.map_map]
theorem ev_round {v : Val} (h : v.Good 200 27) {j : Nat} {l : FM.Loc} (h7 : l[7]? = some (some (.int v.k))) (hj : l[j]? = some (some v.d)) :
    (mCall [false, false, false] (F__law_round C) (mCons (mVar 7) (mCons (mVar j) (mCons (mFrz (mCall [false, false] (F__law_two_lines C) (mCons (mVar 7) (mCons (mVar j) (mNil))))) (mNil))))) l = .ok (.bl true) l := by
  have e := S_lines (C := C) h
  obtain ⟨t, hd⟩ := d_tup v
  have r := S_round (C := C) h
  rw [hd] at e r hj
  simp [mDef, startD, mSeq, mSet, mRet, mRetN, mExpr, mIfS, mNop, mCons, mNil, mOp, mC, mVar, mFrz, mMov, mIf, mTest, mTru, mAnd, mOr, mNot, mAndV, mOrV, mNotV, mInt, viewL, view, isImm, mIt, itemsOf, mLC, mFor, mStr1, mTup, mLst, mCall, takeA, putA, mMeth, insAt, mMake, noBrw, mMut, lstAt, mChain, mFld, objAt, mSetF, mAugF, ioOf, mDic, pairD, mAsg, isSto, wipeL, h7, hj, e, r]
def Item (d : D) : Prop := ∃ v : Val, v.Good 200 27 ∧ d = .tup [.int v.k, v.d, .lst (v.r.map (D.str ∘ lineT))]
theorem ev_known {l : FM.Loc} {d : D} (h : Item d) (hl : l[6]? = some (some d)) :
    (mCall [false, false, false] (F__law_round C) (mCons (mOp gIx (mCons (mVar 6) (mCons (mC (.int 0)) mNil))) (mCons (mOp gIx (mCons (mVar 6) (mCons (mC (.int 1)) mNil))) (mCons (mOp gIx (mCons (mVar 6) (mCons (mC (.int 2)) mNil))) (mNil))))) l = .ok (.bl true) l := by
  obtain ⟨v, g, rfl⟩ := h
  obtain ⟨t, hd⟩ := d_tup v
  have r := S_round (C := C) g
  rw [hd] at hl r
  simp [mDef, startD, mSeq, mSet, mRet, mRetN, mExpr, mIfS, mNop, mCons, mNil, mOp, mC, mVar, mFrz, mMov, mIf, mTest, mTru, mAnd, mOr, mNot, mAndV, mOrV, mNotV, mInt, viewL, view, isImm, mIt, itemsOf, mLC, mFor, mStr1, mTup, mLst, mCall, takeA, putA, mMeth, insAt, mMake, noBrw, mMut, lstAt, mChain, mFld, objAt, mSetF, mAugF, ioOf, mDic, pairD, mAsg, isSto, wipeL, hl, gIx, atI_zero, atI_one, atI_two, r]

theorem small_all {l : List Int} (h : (l.all fun i => decide (i.natAbs < 1000)) = true) : ∀ i ∈ l, Sm i := fun i hi => sm_small (of_decide_eq_true (List.all_eq_true.mp h i hi))
theorem keys_all {A : List (List Int)} (h : (A.all fun is => decide (is.length ≤ 4) && is.all fun i => decide (i.natAbs < 1000)) = true) : Keys A := fun is hi => by
  obtain ⟨a, b⟩ := Bool.and_eq_true_iff.mp (List.all_eq_true.mp h is hi)
  exact ⟨of_decide_eq_true a, small_all b⟩
def st1 : Stand := ⟨[], [], 0⟩
def st2 : Stand := ⟨[[0, 2], []], [1, 0], -7⟩
def ho3 : House := ⟨[2, 10, 0], [[9, 0]], [[[[0, 9], []], []], []], [2, 0], 4⟩
def ho4 : House := ⟨[0, 0, 0], [], [], [], 0⟩
def dI1 : D := .tup [.int 1, .tup [.tup [], .tup [], .int 0], .lst [.str [112, 105, 110, 110, 105, 110, 103, 115], .str [116, 114, 105, 101, 115, 32, 48]]]
def dI2 : D := .tup [.int 1, .tup [.tup [.tup [.int 0, .int 2], .tup []], .tup [.int 1, .int 0], .int (-7)], .lst [.str [107, 101, 121, 32, 48, 32, 50], .str [107, 101, 121], .str [112, 105, 110, 110, 105, 110, 103, 115, 32, 49, 32, 48], .str [116, 114, 105, 101, 115, 32, 45, 55]]]
def dH : D := .tup [.tup [.int 2, .int 10, .int 0], .tup [.tup [.int 9, .int 0]], .tup [.tup [.tup [.tup [.int 0, .int 9], .tup []], .tup []], .tup []], .tup [.int 2, .int 0], .int 4]
def dL0 : List D := [.str [108, 105, 110, 101, 32, 50, 32, 49, 48, 32, 48], .str [107, 101, 121, 32, 57, 32, 48], .str [112, 105, 110, 110, 105, 110, 103], .str [108, 111, 99, 107], .str [99, 104, 97, 109, 98, 101, 114, 32, 48, 32, 57], .str [99, 104, 97, 109, 98, 101, 114], .str [108, 111, 99, 107], .str [112, 105, 110, 110, 105, 110, 103]]
def dL1 : List D := [.str [108, 105, 110, 101, 32, 50, 32, 49, 48, 32, 48], .str [107, 101, 121, 32, 57, 32, 48], .str [112, 105, 110, 110, 105, 110, 103], .str [108, 111, 99, 107], .str [99, 104, 97, 109, 98, 101, 114, 32, 48, 32, 57], .str [99, 104, 97, 109, 98, 101, 114], .str [108, 111, 99, 107], .str [112, 105, 110, 110, 105, 110, 103], .str [112, 108, 97, 99, 101, 115, 32, 50, 32, 48], .str [116, 114, 105, 101, 115, 32, 52]]
def dI3 : D := .tup [.int 0, dH, .lst dL1]
def dI4 : D := .tup [.int 0, .tup [.tup [.int 0, .int 0, .int 0], .tup [], .tup [], .tup [], .int 0], .lst [.str [108, 105, 110, 101, 32, 48, 32, 48, 32, 48], .str [112, 108, 97, 99, 101, 115], .str [116, 114, 105, 101, 115, 32, 48]]]
theorem i1 : Item dI1 := by
  refine ⟨.stand st1, ⟨by decide, keys_all (by decide), by decide, small_all (by decide), sm_small (by decide)⟩, ?_⟩
  rw [lines_of_val (v := .stand st1) (L := [[112, 105, 110, 110, 105, 110, 103, 115], [116, 114, 105, 101, 115, 32, 48]]) (by decide +kernel)]
  rfl
theorem i2 : Item dI2 := by
  refine ⟨.stand st2, ⟨by decide, keys_all (by decide), by decide, small_all (by decide), sm_small (by decide)⟩, ?_⟩
  rw [lines_of_val (v := .stand st2) (L := [[107, 101, 121, 32, 48, 32, 50], [107, 101, 121], [112, 105, 110, 110, 105, 110, 103, 115, 32, 49, 32, 48], [116, 114, 105, 101, 115, 32, 45, 55]]) (by decide +kernel)]
  rfl
theorem pin_nil : PinOk [] := ⟨by decide, fun lk h => by cases h⟩
theorem i3 : Item dI3 := by
  refine ⟨.house ho3, ⟨⟨by decide, small_all (by decide)⟩, ⟨by decide, keys_all (by decide)⟩, ⟨by decide, fun p hp => ?_⟩, ⟨by decide, small_all (by decide)⟩, sm_small (by decide)⟩, ?_⟩
  · rcases mem2 hp with rfl | rfl
    · refine ⟨by decide, fun lk hl => ?_⟩
      rcases mem2 hl with rfl | rfl
      · exact ⟨by decide, keys_all (by decide)⟩
      · exact ⟨by decide, keys_all (by decide)⟩
    · exact pin_nil
  · rw [lines_of_val (v := .house ho3) (L := [[108, 105, 110, 101, 32, 50, 32, 49, 48, 32, 48], [107, 101, 121, 32, 57, 32, 48], [112, 105, 110, 110, 105, 110, 103], [108, 111, 99, 107], [99, 104, 97, 109, 98, 101, 114, 32, 48, 32, 57], [99, 104, 97, 109, 98, 101, 114], [108, 111, 99, 107], [112, 105, 110, 110, 105, 110, 103], [112, 108, 97, 99, 101, 115, 32, 50, 32, 48], [116, 114, 105, 101, 115, 32, 52]]) (by decide +kernel)]
    rfl
theorem i4 : Item dI4 := by
  refine ⟨.house ho4, ⟨⟨by decide, small_all (by decide)⟩, ⟨by decide, keys_all (by decide)⟩, ⟨by decide, fun p hp => by cases hp⟩, ⟨by decide, small_all (by decide)⟩, sm_small (by decide)⟩, ?_⟩
  rw [lines_of_val (v := .house ho4) (L := [[108, 105, 110, 101, 32, 48, 32, 48, 32, 48], [112, 108, 97, 99, 101, 115], [116, 114, 105, 101, 115, 32, 48]]) (by decide +kernel)]
  rfl
/-- the law's body for a kind -/
noncomputable def bKind (C : Addr) : MS := mSeq (mSet 8 (mCall [false, true, false] (F__law_two_value C) (mCons (mVar 0) (mCons (mVar 1) (mCons (mVar 7) (mNil)))))) (mSeq (mFor (mIt (mFrz (mLst (mCons (mVar 8) (mCons (mCall [false, true, false] (F__law_two_value C) (mCons (mVar 0) (mCons (mVar 1) (mCons (mVar 7) (mNil))))) (mCons (mVar 8) (mNil))))))) (gN 9) (mIfS (mNot (mTru (mCall [false, false, false] (F__law_round C) (mCons (mVar 7) (mCons (mVar 9) (mCons (mFrz (mCall [false, false] (F__law_two_lines C) (mCons (mVar 7) (mCons (mVar 9) (mNil))))) (mNil))))))) (mRet (mC (.bl false))) (mNop))) (mIfS (mTest (mOp gEq (mCons (mCall [true, false] (F__law_take C) (mCons (mVar 2) (mCons (mC (.int 6)) (mNil)))) (mCons (mC (.int 3)) mNil)))) (mSeq (mSet 10 (mCall [false, false, false] (F__law_large C) (mCons (mVar 8) (mCons (mVar 7) (mCons (mOp gAdd (mCons (mC (.int 10)) (mCons (mCall [true, false] (F__law_take C) (mCons (mVar 2) (mCons (mC (.int 40)) (mNil)))) mNil))) (mNil)))))) (mIfS (mNot (mTru (mCall [false, false, false] (F__law_round C) (mCons (mVar 7) (mCons (mVar 10) (mCons (mFrz (mCall [false, false] (F__law_two_lines C) (mCons (mVar 7) (mCons (mVar 10) (mNil))))) (mNil))))))) (mRet (mC (.bl false))) (mNop))) (mNop)))
theorem S_kind {p q r : Option D} {ns js ds : List Int} {k : Int} (hk : k = 0 ∨ k = 1) {x6 x8 x9 x10 : Option D} :
    ∃ (js' ds' : List Int) (x8' x9' x10' : Option D), bKind C [some (.lst (ns.map .int)), some (.own (js.map .int)), some (.own (ds.map .int)), p, q, r, x6, some (.int k), x8, x9, x10] = .nx [some (.lst (ns.map .int)), some (.own (js'.map .int)), some (.own (ds'.map .int)), p, q, r, x6, some (.int k), x8', x9', x10'] := by
  obtain ⟨v1, j1, e1, rfl, g1⟩ := S_value (C := C) (ns := ns) (js := js) hk
  obtain ⟨v2, j2, e2, k2, g2⟩ := S_value (C := C) (ns := ns) (js := j1) hk
  obtain ⟨t1, d1⟩ := d_tup v1
  obtain ⟨t2, d2⟩ := d_tup v2
  obtain ⟨l', f1, ⟨x9', f2⟩, _⟩ := for_inv (t := gN 9) (b := mIfS (mNot (mTru (mCall [false, false, false] (F__law_round C) (mCons (mVar 7) (mCons (mVar 9) (mCons (mFrz (mCall [false, false] (F__law_two_lines C) (mCons (mVar 7) (mCons (mVar 9) (mNil))))) (mNil))))))) (mRet (mC (.bl false))) (mNop))
    (P := fun rest l => (∃ x9, l = [some (.lst (ns.map .int)), some (.own (j2.map .int)), some (.own (ds.map .int)), p, q, r, x6, some (.int v1.k), some v1.d, x9, x10]) ∧ ∀ d ∈ rest, ∃ v : Val, d = v.d ∧ v.k = v1.k ∧ v.Good 4 3) (by
      intro d rest l ⟨⟨x9, hl⟩, hr⟩
      subst hl
      obtain ⟨v, rfl, hvk, gv⟩ := hr d List.mem_cons_self
      have rr := ev_round (C := C) (good_up gv) (j := 9) (l := [some (.lst (ns.map .int)), some (.own (j2.map .int)), some (.own (ds.map .int)), p, q, r, x6, some (.int v1.k), some v1.d, some v.d, x10]) (by rw [hvk]; rfl) rfl
      refine ⟨_, _, rfl, ?_, ⟨some v.d, rfl⟩, fun z hz => hr z (List.mem_cons_of_mem _ hz)⟩
      simp only [gN, List.set_cons_succ, List.set_cons_zero] at rr ⊢
      simp only [mIfS, mNot, mTru, rr, view, Option.bind_some, gTru, mNop, Bool.not_true])
    (ds := [v1.d, v2.d, v1.d]) (l := [some (.lst (ns.map .int)), some (.own (j2.map .int)), some (.own (ds.map .int)), p, q, r, x6, some (.int v1.k), some v1.d, x9, x10]) ⟨⟨x9, rfl⟩, by
      intro d hd
      rcases mem3 hd with rfl | rfl | rfl
      · exact ⟨v1, rfl, rfl, g1⟩
      · exact ⟨v2, rfl, k2, g2⟩
      · exact ⟨v1, rfl, rfl, g1⟩⟩
  subst f2
  obtain ⟨a, d3, e3, a1, a2⟩ := S_take' (C := C) (is := ds) (m := 6) (by decide)
  obtain ⟨b, d4, e4, b1, b2⟩ := S_take' (C := C) (is := d3) (m := 40) (by decide)
  obtain ⟨m, hm, hb⟩ : ∃ m : Nat, (10 : Int) + b = m ∧ 10 ≤ m ∧ m ≤ 49 := ⟨(10 + b).toNat, by omega, by omega, by omega⟩
  obtain ⟨v3, e5, k3, g3⟩ := S_large (C := C) hb.1 hb.2 g1
  obtain ⟨t3, d3'⟩ := d_tup v3
  rw [← hm] at e5
  rw [d1, d2] at f1
  rw [d1] at e1 e5
  rw [d2] at e2
  have r6 := S_round (C := C) g3
  have e6 := S_lines (C := C) g3
  rw [d3'] at e5 e6 r6
  rw [k3] at e6 r6
  generalize v1.k = k at *
  unfold bKind
  by_cases ha : a = 3
  · have hab : (a == 3) = true := beq_iff_eq.mpr ha
    refine ⟨j2, d4, some (.tup t1), x9', some (.tup t3), ?_⟩
    simp [mDef, startD, mSeq, mSet, mRet, mRetN, mExpr, mIfS, mNop, mCons, mNil, mOp, mC, mVar, mFrz, mMov, mIf, mTest, mTru, mAnd, mOr, mNot, mAndV, mOrV, mNotV, mInt, viewL, view, isImm, mIt, itemsOf, mLC, mFor, mStr1, mTup, mLst, mCall, takeA, putA, mMeth, insAt, mMake, noBrw, mMut, lstAt, mChain, mFld, objAt, mSetF, mAugF, ioOf, mDic, pairD, mAsg, isSto, wipeL, e1, e2, f1, e3, e4, e5, e6, r6, hab, gEq, sc2, deq, gAdd, gTru]
  · have hab : (a == 3) = false := beq_eq_false_iff_ne.mpr ha
    refine ⟨j2, d3, some (.tup t1), x9', x10, ?_⟩
    simp [mDef, startD, mSeq, mSet, mRet, mRetN, mExpr, mIfS, mNop, mCons, mNil, mOp, mC, mVar, mFrz, mMov, mIf, mTest, mTru, mAnd, mOr, mNot, mAndV, mOrV, mNotV, mInt, viewL, view, isImm, mIt, itemsOf, mLC, mFor, mStr1, mTup, mLst, mCall, takeA, putA, mMeth, insAt, mMake, noBrw, mMut, lstAt, mChain, mFld, objAt, mSetF, mAugF, ioOf, mDic, pairD, mAsg, isSto, wipeL, e1, e2, f1, e3, hab, gEq, sc2, deq]
theorem S_law {ns : List Int} (hn : ns.length ≤ 1000) : F_law C [.lst (ns.map .int)] = .ok (.bl true) [] := by
  obtain ⟨js, hjs⟩ := S_draws (C := C) hn (m := 900) (by decide)
  have hjs : F__law_draws C [.lst (ns.map .int), .int 900] = .ok (.own (js.map .int)) [] := hjs
  obtain ⟨l1, f1, ⟨x1, hl1⟩, _⟩ := for_inv (t := gN 6) (b := mIfS (mNot (mTru (mCall [false, false, false] (F__law_round C) (mCons (mOp gIx (mCons (mVar 6) (mCons (mC (.int 0)) mNil))) (mCons (mOp gIx (mCons (mVar 6) (mCons (mC (.int 1)) mNil))) (mCons (mOp gIx (mCons (mVar 6) (mCons (mC (.int 2)) mNil))) (mNil))))))) (mRet (mC (.bl false))) (mNop))
    (P := fun rest l => (∃ x, l = [some (.lst (ns.map .int)), some (.own ((js.drop 40).map .int)), some (.own ((js.take 40).map .int)), some (.lst [dI1, dI2, dI3, dI4]), some dH, some (.lst dL1), x, none, none, none, none]) ∧ ∀ d ∈ rest, Item d) (by
      intro d rest l ⟨⟨x, hl⟩, hr⟩
      subst hl
      have r := ev_known (C := C) (hr d List.mem_cons_self) (l := [some (.lst (ns.map .int)), some (.own ((js.drop 40).map .int)), some (.own ((js.take 40).map .int)), some (.lst [dI1, dI2, dI3, dI4]), some dH, some (.lst dL1), some d, none, none, none, none]) rfl
      refine ⟨_, _, rfl, ?_, ⟨some d, rfl⟩, fun z hz => hr z (List.mem_cons_of_mem _ hz)⟩
      simp only [gN, List.set_cons_succ, List.set_cons_zero] at r ⊢
      simp only [mIfS, mNot, mTru, r, view, Option.bind_some, gTru, mNop, Bool.not_true])
    (ds := [dI1, dI2, dI3, dI4]) (l := [some (.lst (ns.map .int)), some (.own ((js.drop 40).map .int)), some (.own ((js.take 40).map .int)), some (.lst [dI1, dI2, dI3, dI4]), some dH, some (.lst dL1), none, none, none, none, none]) ⟨⟨none, rfl⟩, by
      intro d hd
      simp only [List.mem_cons, List.not_mem_nil, or_false] at hd
      rcases hd with rfl | rfl | rfl | rfl
      · exact i1
      · exact i2
      · exact i3
      · exact i4⟩
  subst hl1
  obtain ⟨l2, f2, ⟨a9, b9, x7, x8, x9, x10, hl2⟩, _⟩ := for_inv (t := gN 7) (b := bKind C)
    (P := fun rest l => (∃ (a b : List Int) (x7 x8 x9 x10 : Option D), l = [some (.lst (ns.map .int)), some (.own (a.map .int)), some (.own (b.map .int)), some (.lst [dI1, dI2, dI3, dI4]), some dH, some (.lst dL1), x1, x7, x8, x9, x10]) ∧ ∀ d ∈ rest, ∃ k : Int, (k = 0 ∨ k = 1) ∧ d = .int k) (by
      intro d rest l ⟨⟨a, b, x7, x8, x9, x10, hl⟩, hr⟩
      subst hl
      obtain ⟨k, hk, rfl⟩ := hr d List.mem_cons_self
      obtain ⟨a', b', y8, y9, y10, e⟩ := S_kind (C := C) (p := some (.lst [dI1, dI2, dI3, dI4])) (q := some dH) (r := some (.lst dL1)) (ns := ns) (js := a) (ds := b) hk (x6 := x1) (x8 := x8) (x9 := x9) (x10 := x10)
      exact ⟨_, _, rfl, e, ⟨a', b', some (.int k), y8, y9, y10, rfl⟩, fun z hz => hr z (List.mem_cons_of_mem _ hz)⟩)
    (ds := rangeD 0 2) (l := [some (.lst (ns.map .int)), some (.own ((js.drop 40).map .int)), some (.own ((js.take 40).map .int)), some (.lst [dI1, dI2, dI3, dI4]), some dH, some (.lst dL1), x1, none, none, none, none]) ⟨⟨_, _, none, none, none, none, rfl⟩, by
      intro d hd
      obtain ⟨i, hi, rfl⟩ := List.mem_map.mp hd
      rw [List.mem_range] at hi
      exact ⟨(0 : Int) + (i : Nat), by omega, rfl⟩⟩
  subst hl2
  unfold F_law m_law
  refine def_rt (d := .bl true) (io := []) (l := [some (.lst (ns.map .int)), some (.own (a9.map .int)), some (.own (b9.map .int)), some (.lst [dI1, dI2, dI3, dI4]), some dH, some (.lst dL1), x1, x7, x8, x9, x10]) ?_ rfl
  refine (seq_nx (l1 := [some (.lst (ns.map .int)), some (.own (js.map .int)), none, none, none, none, none, none, none, none, none]) ?_).trans ?_
  · simp [mDef, startD, mSeq, mSet, mRet, mRetN, mExpr, mIfS, mNop, mCons, mNil, mOp, mC, mVar, mFrz, mMov, mIf, mTest, mTru, mAnd, mOr, mNot, mAndV, mOrV, mNotV, mInt, viewL, view, isImm, mIt, itemsOf, mLC, mFor, mStr1, mTup, mLst, mCall, takeA, putA, mMeth, insAt, mMake, noBrw, mMut, lstAt, mChain, mFld, objAt, mSetF, mAugF, ioOf, mDic, pairD, mAsg, isSto, wipeL, hjs]
  refine (seq_nx (l1 := [some (.lst (ns.map .int)), some (.own (js.map .int)), some (.own ((js.take 40).map .int)), none, none, none, none, none, none, none, none]) ?_).trans ?_
  · simp [mDef, startD, mSeq, mSet, mRet, mRetN, mExpr, mIfS, mNop, mCons, mNil, mOp, mC, mVar, mFrz, mMov, mIf, mTest, mTru, mAnd, mOr, mNot, mAndV, mOrV, mNotV, mInt, viewL, view, isImm, mIt, itemsOf, mLC, mFor, mStr1, mTup, mLst, mCall, takeA, putA, mMeth, insAt, mMake, noBrw, mMut, lstAt, mChain, mFld, objAt, mSetF, mAugF, ioOf, mDic, pairD, mAsg, isSto, wipeL, gSl, gSl.part?, cut01_40]
  refine (seq_nx (l1 := [some (.lst (ns.map .int)), some (.own ((js.drop 40).map .int)), some (.own ((js.take 40).map .int)), none, none, none, none, none, none, none, none]) ?_).trans ?_
  · simp [mDef, startD, mSeq, mSet, mRet, mRetN, mExpr, mIfS, mNop, mCons, mNil, mOp, mC, mVar, mFrz, mMov, mIf, mTest, mTru, mAnd, mOr, mNot, mAndV, mOrV, mNotV, mInt, viewL, view, isImm, mIt, itemsOf, mLC, mFor, mStr1, mTup, mLst, mCall, takeA, putA, mMeth, insAt, mMake, noBrw, mMut, lstAt, mChain, mFld, objAt, mSetF, mAugF, ioOf, mDic, pairD, mAsg, isSto, wipeL, gSl, gSl.part?, cut10_40]
  refine (seq_nx (l1 := [some (.lst (ns.map .int)), some (.own ((js.drop 40).map .int)), some (.own ((js.take 40).map .int)), some (.own [dI1]), none, none, none, none, none, none, none]) ?_).trans ?_
  · simp [mDef, startD, mSeq, mSet, mRet, mRetN, mExpr, mIfS, mNop, mCons, mNil, mOp, mC, mVar, mFrz, mMov, mIf, mTest, mTru, mAnd, mOr, mNot, mAndV, mOrV, mNotV, mInt, viewL, view, isImm, mIt, itemsOf, mLC, mFor, mStr1, mTup, mLst, mCall, takeA, putA, mMeth, insAt, mMake, noBrw, mMut, lstAt, mChain, mFld, objAt, mSetF, mAugF, ioOf, mDic, pairD, mAsg, isSto, wipeL, dI1]
  refine (seq_nx (l1 := [some (.lst (ns.map .int)), some (.own ((js.drop 40).map .int)), some (.own ((js.take 40).map .int)), some (.own [dI1, dI2]), none, none, none, none, none, none, none]) ?_).trans ?_
  · simp [mDef, startD, mSeq, mSet, mRet, mRetN, mExpr, mIfS, mNop, mCons, mNil, mOp, mC, mVar, mFrz, mMov, mIf, mTest, mTru, mAnd, mOr, mNot, mAndV, mOrV, mNotV, mInt, viewL, view, isImm, mIt, itemsOf, mLC, mFor, mStr1, mTup, mLst, mCall, takeA, putA, mMeth, insAt, mMake, noBrw, mMut, lstAt, mChain, mFld, objAt, mSetF, mAugF, ioOf, mDic, pairD, mAsg, isSto, wipeL, dI2, gNeg, gApp]
  refine (seq_nx (l1 := [some (.lst (ns.map .int)), some (.own ((js.drop 40).map .int)), some (.own ((js.take 40).map .int)), some (.own [dI1, dI2]), some dH, none, none, none, none, none, none]) ?_).trans ?_
  · simp [mDef, startD, mSeq, mSet, mRet, mRetN, mExpr, mIfS, mNop, mCons, mNil, mOp, mC, mVar, mFrz, mMov, mIf, mTest, mTru, mAnd, mOr, mNot, mAndV, mOrV, mNotV, mInt, viewL, view, isImm, mIt, itemsOf, mLC, mFor, mStr1, mTup, mLst, mCall, takeA, putA, mMeth, insAt, mMake, noBrw, mMut, lstAt, mChain, mFld, objAt, mSetF, mAugF, ioOf, mDic, pairD, mAsg, isSto, wipeL, dH]
  refine (seq_nx (l1 := [some (.lst (ns.map .int)), some (.own ((js.drop 40).map .int)), some (.own ((js.take 40).map .int)), some (.own [dI1, dI2]), some dH, some (.lst dL0), none, none, none, none, none]) ?_).trans ?_
  · simp [mDef, startD, mSeq, mSet, mRet, mRetN, mExpr, mIfS, mNop, mCons, mNil, mOp, mC, mVar, mFrz, mMov, mIf, mTest, mTru, mAnd, mOr, mNot, mAndV, mOrV, mNotV, mInt, viewL, view, isImm, mIt, itemsOf, mLC, mFor, mStr1, mTup, mLst, mCall, takeA, putA, mMeth, insAt, mMake, noBrw, mMut, lstAt, mChain, mFld, objAt, mSetF, mAugF, ioOf, mDic, pairD, mAsg, isSto, wipeL, dL0]
  refine (seq_nx (l1 := [some (.lst (ns.map .int)), some (.own ((js.drop 40).map .int)), some (.own ((js.take 40).map .int)), some (.own [dI1, dI2]), some dH, some (.lst dL1), none, none, none, none, none]) ?_).trans ?_
  · simp [mDef, startD, mSeq, mSet, mRet, mRetN, mExpr, mIfS, mNop, mCons, mNil, mOp, mC, mVar, mFrz, mMov, mIf, mTest, mTru, mAnd, mOr, mNot, mAndV, mOrV, mNotV, mInt, viewL, view, isImm, mIt, itemsOf, mLC, mFor, mStr1, mTup, mLst, mCall, takeA, putA, mMeth, insAt, mMake, noBrw, mMut, lstAt, mChain, mFld, objAt, mSetF, mAugF, ioOf, mDic, pairD, mAsg, isSto, wipeL, dL0, dL1, gAdd]
  refine (seq_nx (l1 := [some (.lst (ns.map .int)), some (.own ((js.drop 40).map .int)), some (.own ((js.take 40).map .int)), some (.own [dI1, dI2, dI3, dI4]), some dH, some (.lst dL1), none, none, none, none, none]) ?_).trans ?_
  · simp [mDef, startD, mSeq, mSet, mRet, mRetN, mExpr, mIfS, mNop, mCons, mNil, mOp, mC, mVar, mFrz, mMov, mIf, mTest, mTru, mAnd, mOr, mNot, mAndV, mOrV, mNotV, mInt, viewL, view, isImm, mIt, itemsOf, mLC, mFor, mStr1, mTup, mLst, mCall, takeA, putA, mMeth, insAt, mMake, noBrw, mMut, lstAt, mChain, mFld, objAt, mSetF, mAugF, ioOf, mDic, pairD, mAsg, isSto, wipeL, dI3, dI4, dH, gAdd]
  refine (seq_nx (for_nx (ds := [dI1, dI2, dI3, dI4]) (l1 := [some (.lst (ns.map .int)), some (.own ((js.drop 40).map .int)), some (.own ((js.take 40).map .int)), some (.lst [dI1, dI2, dI3, dI4]), some dH, some (.lst dL1), none, none, none, none, none]) ?_ f1)).trans ?_
  · simp [mDef, startD, mSeq, mSet, mRet, mRetN, mExpr, mIfS, mNop, mCons, mNil, mOp, mC, mVar, mFrz, mMov, mIf, mTest, mTru, mAnd, mOr, mNot, mAndV, mOrV, mNotV, mInt, viewL, view, isImm, mIt, itemsOf, mLC, mFor, mStr1, mTup, mLst, mCall, takeA, putA, mMeth, insAt, mMake, noBrw, mMut, lstAt, mChain, mFld, objAt, mSetF, mAugF, ioOf, mDic, pairD, mAsg, isSto, wipeL]
  refine (seq_nx (for_nx (rng_ev (m := 2) rfl (by decide)) f2)).trans ?_
  rfl
end K84

set_option maxHeartbeats 4000000

namespace K84
open PySem PySem.Spec PyProof.Rows L2 FM
def top (i : Nat) : Stmt := PySem.Challenge.pw_noghostkey_k84_texts_of_houses_and_stand.main.body.getD i (.Pass ⟨0, 0, 0, 0⟩)
def cBody : Stmt → List Stmt
  | .ClassDef _ _ _ b _ _ _ _ _ _ _ => b
  | _ => []
def mth (i j : Nat) : Stmt := (cBody (top i)).getD j (.Pass ⟨0, 0, 0, 0⟩)
def dOf (a : Str × Option Str) (x q : Str) (st : Stmt) : He.DefD := ⟨a, x, q, defArgs st, defBody st, defScope st, [], []⟩
def d_is_integer : He.DefD := dOf ("is_integer", none) "is_integer" "is_integer" (top 5)
def d_numbers_of : He.DefD := dOf ("numbers_of", none) "numbers_of" "numbers_of" (top 6)
def d_lines_of : He.DefD := dOf ("lines_of", none) "lines_of" "lines_of" (top 7)
def d_line : He.DefD := dOf ("line", none) "line" "line" (top 8)
def d_Lines_init : He.DefD := dOf ("Lines", some "__init__") "__init__" "Lines.__init__" (mth 9 0)
def d_Lines_is_done : He.DefD := dOf ("Lines", some "is_done") "is_done" "Lines.is_done" (mth 9 1)
def d_Lines_peek : He.DefD := dOf ("Lines", some "peek") "peek" "Lines.peek" (mth 9 2)
def d_Lines_take : He.DefD := dOf ("Lines", some "take") "take" "Lines.take" (mth 9 4)
def d_Lines_finish : He.DefD := dOf ("Lines", some "finish") "finish" "Lines.finish" (mth 9 5)
def d_taken_rows : He.DefD := dOf ("taken_rows", none) "taken_rows" "taken_rows" (top 11)
def d_written_locks : He.DefD := dOf ("written_locks", none) "written_locks" "written_locks" (top 12)
def d_locks_of : He.DefD := dOf ("locks_of", none) "locks_of" "locks_of" (top 13)
def d_write_house : He.DefD := dOf ("write_house", none) "write_house" "write_house" (top 14)
def d_read_house : He.DefD := dOf ("read_house", none) "read_house" "read_house" (top 15)
def d_write_stand : He.DefD := dOf ("write_stand", none) "write_stand" "write_stand" (top 16)
def d_stand_of : He.DefD := dOf ("stand_of", none) "stand_of" "stand_of" (top 17)
def d_read_stand : He.DefD := dOf ("read_stand", none) "read_stand" "read_stand" (top 18)
def d__law_draws : He.DefD := dOf ("_law_draws", none) "_law_draws" "_law_draws" (top 20)
def d__law_take : He.DefD := dOf ("_law_take", none) "_law_take" "_law_take" (top 21)
def d__law_cell : He.DefD := dOf ("_law_cell", none) "_law_cell" "_law_cell" (top 22)
def d__law_same : He.DefD := dOf ("_law_same", none) "_law_same" "_law_same" (top 23)
def d__law_any_number : He.DefD := dOf ("_law_any_number", none) "_law_any_number" "_law_any_number" (top 24)
def d__law_some_numbers : He.DefD := dOf ("_law_some_numbers", none) "_law_some_numbers" "_law_some_numbers" (top 25)
def d__law_tuples : He.DefD := dOf ("_law_tuples", none) "_law_tuples" "_law_tuples" (top 26)
def d__law_any_locks : He.DefD := dOf ("_law_any_locks", none) "_law_any_locks" "_law_any_locks" (top 27)
def d__law_any_stands : He.DefD := dOf ("_law_any_stands", none) "_law_any_stands" "_law_any_stands" (top 28)
def d__law_text_line : He.DefD := dOf ("_law_text_line", none) "_law_text_line" "_law_text_line" (top 29)
def d__law_lock_lines : He.DefD := dOf ("_law_lock_lines", none) "_law_lock_lines" "_law_lock_lines" (top 30)
def d__law_house_lines : He.DefD := dOf ("_law_house_lines", none) "_law_house_lines" "_law_house_lines" (top 31)
def d__law_stand_lines : He.DefD := dOf ("_law_stand_lines", none) "_law_stand_lines" "_law_stand_lines" (top 32)
def d__law_joined : He.DefD := dOf ("_law_joined", none) "_law_joined" "_law_joined" (top 33)
def d__law_two_value : He.DefD := dOf ("_law_two_value", none) "_law_two_value" "_law_two_value" (top 34)
def d__law_two_lines : He.DefD := dOf ("_law_two_lines", none) "_law_two_lines" "_law_two_lines" (top 35)
def d__law_written : He.DefD := dOf ("_law_written", none) "_law_written" "_law_written" (top 36)
def d__law_told : He.DefD := dOf ("_law_told", none) "_law_told" "_law_told" (top 37)
def d__law_large : He.DefD := dOf ("_law_large", none) "_law_large" "_law_large" (top 38)
def d__law_round : He.DefD := dOf ("_law_round", none) "_law_round" "_law_round" (top 39)
def d_law : He.DefD := dOf ("law", none) "law" "law" (top 40)
def fn : List He.DefD := ([d_is_integer, d_numbers_of, d_lines_of, d_line, d_Lines_init, d_Lines_is_done, d_Lines_peek, d_Lines_take, d_Lines_finish, d_taken_rows] : List He.DefD) ++ ([d_written_locks, d_locks_of, d_write_house, d_read_house, d_write_stand, d_stand_of, d_read_stand, d__law_draws, d__law_take, d__law_cell] : List He.DefD) ++ ([d__law_same, d__law_any_number, d__law_some_numbers, d__law_tuples, d__law_any_locks, d__law_any_stands, d__law_text_line, d__law_lock_lines, d__law_house_lines, d__law_stand_lines] : List He.DefD) ++ ([d__law_joined, d__law_two_value, d__law_two_lines, d__law_written, d__law_told, d__law_large, d__law_round, d_law] : List He.DefD)
def fa : List He.Fa := ([.str "DIGITS" ⟨List.toArray [48, 49, 50, 51, 52, 53, 54, 55, 56, 57]⟩, .free "all", .free "len", .glo "is_integer", .free "int", .free "tuple", .free "str", .glo "lines_of", .cls "Lines", .noat "Lines" "rows"] : List He.Fa) ++ ([.noat "Lines" "at", .meth "Lines" "is_done", .glo "numbers_of", .meth "Lines" "peek", .meth "Lines" "take", .glo "line", .glo "taken_rows", .glo "written_locks", .mkr "Lines", .glo "Lines"] : List He.Fa) ++ ([.glo "locks_of", .meth "Lines" "finish", .glo "stand_of", .free "list", .free "range", .free "bool", .free "isinstance", .glo "_law_same", .glo "_law_take", .glo "_law_cell"] : List He.Fa) ++ ([.free "abs", .glo "_law_any_number", .glo "_law_some_numbers", .glo "_law_tuples", .glo "_law_text_line", .glo "_law_lock_lines", .glo "_law_any_stands", .glo "_law_any_locks", .glo "_law_house_lines", .glo "_law_stand_lines"] : List He.Fa) ++ ([.glo "write_house", .glo "write_stand", .glo "read_house", .glo "read_stand", .glo "_law_joined", .glo "_law_written", .glo "_law_told", .glo "_law_draws", .glo "_law_round", .glo "_law_two_value"] : List He.Fa) ++ ([.glo "_law_two_lines", .glo "_law_large", .glo "law"] : List He.Fa)
section
variable {P : Program} {w : World} {K : PySem.W.Frag} {mg : Str → Option Value} {base : Heap}
theorem ok_is_integer (c : He.SaysD fa fn K) (KX : K.In base) (G : base.Ns mainGlobals mg) : ∃ fd, OkF P w K mg base 1 (He.fAd K ("is_integer", none)) ["word"] [false] (F_is_integer (He.ga K "Lines")) fd := by
  obtain ⟨fd, F⟩ := c.def_ 0 (d := d_is_integer) rfl
  obtain ⟨t_DIGITS, h_str_DIGITS⟩ := He.str_ok KX G (c.fact 0 (f := .str "DIGITS" ⟨List.toArray [48, 49, 50, 51, 52, 53, 54, 55, 56, 57]⟩) rfl)
  have h_free_all := He.free_ok KX G (c.fact 1 (f := .free "all") rfl)
  have h_free_len := He.free_ok KX G (c.fact 2 (f := .free "len") rfl)
  refine ⟨fd, fn_okM (N := ["word", "digits", "sign"]) (ps := ["word"]) (fl := [false]) (mb := m_is_integer (He.ga K "Lines")) F ⟨rfl, rfl, rfl, by decide +kernel, rfl, by decide +kernel, by decide +kernel⟩ rfl (fun _ _ _ _ _ _ us hl => match us, hl with | [_], _ => rfl) fun cdv A outer s H vs E hr => ?_⟩
  have tk : Takes (cxOf (L2.CX P w) P w K mg base ["word", "digits", "sign"] d_is_integer.qual d_is_integer.scope (He.fAd K ("is_integer", none)) cdv A outer s H E) (Wf E) := takes_of rfl rfl rfl rfl
  have hN : (["word", "digits", "sign"] : List Str).Nodup := by decide +kernel
  exact sm_cons (sm_set hN rfl (by first | exact .inl rfl | exact .inr rfl) (pin_no rfl) (em_frz (em_if (tm_cmp (op_eqA hr.units) oeq (em_sl01 (em_var (pv 0)) (em_int)) (em_str (l := [45])) (nomark _)) (em_frz (em_sl10 (em_var (pv 0)) (em_int))) (em_var (pv 0))))) (sm_cons (sm_if (tm_w (wm_or (tm_not (tm_chain op_le op_le ole ole (em_int) (em_callB call_lenA olen (by rfl) h_free_len boot_len (am_cons (em_var (pv 1)) (am_nil))) (em_int))) (wm_or1 (tm_not (tm_tru (em_callB (cr_all rfl) oall (by rfl) h_free_all boot_all (am_cons (em_lc rfl hN (im_seq (em_var (pv 1))) (blkOk_by (own := [("sign", 2)]) rfl) (fun _ _ _ _ _ => gm_name hN rfl (by first | exact .inl rfl | exact .inr rfl) rfl) (fun _ _ _ _ _ => tms_nil) (fun _ _ _ _ _ => em_cmp (op_inA (room65 hr)) oin (em_var (pv 2)) (em_glob (v := .str ⟨List.toArray [48, 49, 50, 51, 52, 53, 54, 55, 56, 57]⟩) (d := .str [48, 49, 50, 51, 52, 53, 54, 55, 56, 57]) rfl h_str_DIGITS ⟨t_DIGITS, rfl⟩ (fun _ => .str [48, 49, 50, 51, 52, 53, 54, 55, 56, 57])) (by rfl)) (by decide)) (am_nil)))))))) (sm_one (sm_ret (em_bl))) (sm_nil)) (sm_cons (sm_if (tm_cmp (op_eqA hr.units) oeq (em_ix ix_seq oix (em_var (pv 1)) (em_int) (fun _ _ => rfl)) (em_str (l := [48])) (nomark _)) (sm_one (sm_ret (em_cmp (op_eqA hr.units) oeq (em_var (pv 0)) (em_str (l := [48])) (nomark _)))) (sm_nil)) (sm_one (sm_ret (em_bl)))))
theorem ok_numbers_of (c : He.SaysD fa fn K) (KX : K.In base) (G : base.Ns mainGlobals mg) : ∃ fd, OkF P w K mg base 2 (He.fAd K ("numbers_of", none)) ["words"] [false] (F_numbers_of (He.ga K "Lines")) fd := by
  obtain ⟨fd, F⟩ := c.def_ 1 (d := d_numbers_of) rfl
  obtain ⟨fd_is_integer, g_is_integer⟩ := ok_is_integer (P := P) (w := w) c KX G
  have h_glo_is_integer := He.glo_ok KX G (c.fact 3 (f := .glo "is_integer") rfl)
  have h_free_all := He.free_ok KX G (c.fact 1 (f := .free "all") rfl)
  have h_free_int := He.free_ok KX G (c.fact 4 (f := .free "int") rfl)
  have h_free_tuple := He.free_ok KX G (c.fact 5 (f := .free "tuple") rfl)
  refine ⟨fd, fn_okM (N := ["words", "word"]) (ps := ["words"]) (fl := [false]) (mb := m_numbers_of (He.ga K "Lines")) F ⟨rfl, rfl, rfl, by decide +kernel, rfl, by decide +kernel, by decide +kernel⟩ rfl (fun _ _ _ _ _ _ us hl => match us, hl with | [_], _ => rfl) fun cdv A outer s H vs E hr => ?_⟩
  have tk : Takes (cxOf (L2.CX P w) P w K mg base ["words", "word"] d_numbers_of.qual d_numbers_of.scope (He.fAd K ("numbers_of", none)) cdv A outer s H E) (Wf E) := takes_of rfl rfl rfl rfl
  have hN : (["words", "word"] : List Str).Nodup := by decide +kernel
  exact sm_cons (sm_if (tm_not (tm_tru (em_callB (cr_all rfl) oall (by rfl) h_free_all boot_all (am_cons (em_lc rfl hN (im_seq (em_var (pv 0))) (blkOk_by (own := [("word", 1)]) rfl) (fun _ _ _ _ _ => gm_name hN rfl (by first | exact .inl rfl | exact .inr rfl) rfl) (fun _ _ _ _ _ => tms_nil) (fun _ _ _ _ _ => em_call g_is_integer.ok takes0 (hr.mono (by decide)) (by rfl) h_glo_is_integer g_is_integer.kp g_is_integer.binds (am_cons (em_var (pv 1)) (am_nil))) (by decide)) (am_nil))))) (sm_one (sm_ret (em_non))) (sm_nil)) (sm_one (sm_ret (em_callTy call_tuple_of otuple (by rfl) h_free_tuple boot_tuple (am_cons (em_lc rfl hN (im_seq (em_var (pv 0))) (blkOk_by (own := [("word", 1)]) rfl) (fun _ _ _ _ _ => gm_name hN rfl (by first | exact .inl rfl | exact .inr rfl) rfl) (fun _ _ _ _ _ => tms_nil) (fun _ _ _ _ _ => em_callTy call_intA oint (by rfl) h_free_int boot_int (am_cons (em_var (pv 1)) (am_nil))) (by decide)) (am_nil)))))
theorem ok_lines_of (c : He.SaysD fa fn K) (KX : K.In base) (G : base.Ns mainGlobals mg) : ∃ fd, OkF P w K mg base 1 (He.fAd K ("lines_of", none)) ["text"] [false] (F_lines_of (He.ga K "Lines")) fd := by
  obtain ⟨fd, F⟩ := c.def_ 2 (d := d_lines_of) rfl
  refine ⟨fd, fn_okM (N := ["text", "parts", "found", "part"]) (ps := ["text"]) (fl := [false]) (mb := m_lines_of (He.ga K "Lines")) F ⟨rfl, rfl, rfl, by decide +kernel, rfl, by decide +kernel, by decide +kernel⟩ rfl (fun _ _ _ _ _ _ us hl => match us, hl with | [_], _ => rfl) fun cdv A outer s H vs E hr => ?_⟩
  have tk : Takes (cxOf (L2.CX P w) P w K mg base ["text", "parts", "found", "part"] d_lines_of.qual d_lines_of.scope (He.fAd K ("lines_of", none)) cdv A outer s H E) (Wf E) := takes_of rfl rfl rfl rfl
  have hN : (["text", "parts", "found", "part"] : List Str).Nodup := by decide +kernel
  exact sm_cons (sm_set hN rfl (by first | exact .inl rfl | exact .inr rfl) (pin_no rfl) (em_frz (em_split (em_var (pv 0)) (em_str (l := [10]))))) (sm_cons (sm_setLc rfl hN rfl rfl (by rfl) (pin_no rfl) (im_seq (em_frz (em_sl01 (em_var (pv 1)) (em_neg (em_int))))) (blkOk_by (own := [("part", 3)]) rfl) (fun _ _ _ _ _ => gm_name hN rfl (by first | exact .inl rfl | exact .inr rfl) rfl) (fun _ _ _ _ _ => tms_nil) (fun _ _ _ _ _ => em_tup (am_cons (em_var (pv 3)) (am_cons (em_bl) (am_nil)))) (by decide)) (sm_cons (sm_if (tm_cmp (op_neA hr.units) one (em_ix ix_seq oix (em_var (pv 1)) (em_neg (em_int)) (fun _ _ => rfl)) (em_str (l := [])) (nomark _)) (sm_one (sm_expr (em_mut mt_append mapp PySem.F.slot_list_append PySem.F.type_list_append (pv 2) (am_cons (em_tup (am_cons (em_ix ix_seq oix (em_var (pv 1)) (em_neg (em_int)) (fun _ _ => rfl)) (am_cons (em_bl) (am_nil)))) (am_nil))))) (sm_nil)) (sm_one (sm_ret (em_mov (em_var (pv 2)))))))
theorem ok_line (c : He.SaysD fa fn K) (KX : K.In base) (G : base.Ns mainGlobals mg) : ∃ fd, OkF P w K mg base 1 (He.fAd K ("line", none)) ["word", "numbers"] [false, false] (F_line (He.ga K "Lines")) fd := by
  obtain ⟨fd, F⟩ := c.def_ 3 (d := d_line) rfl
  have h_free_str := He.free_ok KX G (c.fact 6 (f := .free "str") rfl)
  refine ⟨fd, fn_okM (N := ["word", "numbers", "number"]) (ps := ["word", "numbers"]) (fl := [false, false]) (mb := m_line (He.ga K "Lines")) F ⟨rfl, rfl, rfl, by decide +kernel, rfl, by decide +kernel, by decide +kernel⟩ rfl (fun _ _ _ _ _ _ us hl => match us, hl with | [_, _], _ => rfl) fun cdv A outer s H vs E hr => ?_⟩
  have tk : Takes (cxOf (L2.CX P w) P w K mg base ["word", "numbers", "number"] d_line.qual d_line.scope (He.fAd K ("line", none)) cdv A outer s H E) (Wf E) := takes_of rfl rfl rfl rfl
  have hN : (["word", "numbers", "number"] : List Str).Nodup := by decide +kernel
  exact sm_one (sm_ret (em_op op_addAll oaddAll (em_join (em_str (l := [32])) (em_op op_addAll oaddAll (em_lst (am_cons (em_var (pv 0)) (am_nil))) (em_lc rfl hN (im_seq (em_var (pv 1))) (blkOk_by (own := [("number", 2)]) rfl) (fun _ _ _ _ _ => gm_name hN rfl (by first | exact .inl rfl | exact .inr rfl) rfl) (fun _ _ _ _ _ => tms_nil) (fun _ _ _ _ _ => em_callTy call_str_int ostr (by rfl) h_free_str boot_str (am_cons (em_var (pv 2)) (am_nil))) (by decide)))) (em_str (l := [10]))))
theorem ok_Lines_init (c : He.SaysD fa fn K) (KX : K.In base) (G : base.Ns mainGlobals mg) : ∃ fd, OkF P w K mg base 2 (He.fAd K ("Lines", some "__init__")) ["self", "text"] [true, false] (F_Lines_init (He.ga K "Lines")) fd := by
  obtain ⟨fd, F⟩ := c.def_ 4 (d := d_Lines_init) rfl
  obtain ⟨fd_lines_of, g_lines_of⟩ := ok_lines_of (P := P) (w := w) c KX G
  have h_glo_lines_of := He.glo_ok KX G (c.fact 7 (f := .glo "lines_of") rfl)
  have h_cls_Lines := He.cls_ok (c.fact 8 (f := .cls "Lines") rfl)
  have h_noat_Lines_rows := He.noat_ok (c.fact 9 (f := .noat "Lines" "rows") rfl)
  have h_noat_Lines_at := He.noat_ok (c.fact 10 (f := .noat "Lines" "at") rfl)
  refine ⟨fd, fn_okM (N := ["self", "text"]) (ps := ["self", "text"]) (fl := [true, false]) (mb := m_Lines_init (He.ga K "Lines")) F ⟨rfl, rfl, rfl, by decide +kernel, rfl, by decide +kernel, by decide +kernel⟩ rfl (fun _ _ _ _ _ _ us hl => match us, hl with | [_, _], _ => rfl) fun cdv A outer s H vs E hr => ?_⟩
  have tk : Takes (cxOf (L2.CX P w) P w K mg base ["self", "text"] d_Lines_init.qual d_Lines_init.scope (He.fAd K ("Lines", some "__init__")) cdv A outer s H E) (Wf E) := takes_of rfl rfl rfl rfl
  exact sm_cons (sm_fld (pv 0) (em_frz (em_call g_lines_of.ok tk (hr.mono (by decide)) (by rfl) h_glo_lines_of g_lines_of.kp g_lines_of.binds (am_cons (em_var (pv 1)) (am_nil)))) h_cls_Lines h_noat_Lines_rows) (sm_one (sm_fld (pv 0) (em_int) h_cls_Lines h_noat_Lines_at))
theorem ok_Lines_is_done (c : He.SaysD fa fn K) (KX : K.In base) (G : base.Ns mainGlobals mg) : ∃ fd, OkF P w K mg base 1 (He.fAd K ("Lines", some "is_done")) ["self"] [true] (F_Lines_is_done (He.ga K "Lines")) fd := by
  obtain ⟨fd, F⟩ := c.def_ 5 (d := d_Lines_is_done) rfl
  have h_cls_Lines := He.cls_ok (c.fact 8 (f := .cls "Lines") rfl)
  have h_noat_Lines_at := He.noat_ok (c.fact 10 (f := .noat "Lines" "at") rfl)
  have h_noat_Lines_rows := He.noat_ok (c.fact 9 (f := .noat "Lines" "rows") rfl)
  have h_free_len := He.free_ok KX G (c.fact 2 (f := .free "len") rfl)
  refine ⟨fd, fn_okM (N := ["self"]) (ps := ["self"]) (fl := [true]) (mb := m_Lines_is_done (He.ga K "Lines")) F ⟨rfl, rfl, rfl, by decide +kernel, rfl, by decide +kernel, by decide +kernel⟩ rfl (fun _ _ _ _ _ _ us hl => match us, hl with | [_], _ => rfl) fun cdv A outer s H vs E hr => ?_⟩
  have tk : Takes (cxOf (L2.CX P w) P w K mg base ["self"] d_Lines_is_done.qual d_Lines_is_done.scope (He.fAd K ("Lines", some "is_done")) cdv A outer s H E) (Wf E) := takes_of rfl rfl rfl rfl
  exact sm_one (sm_ret (em_cmp op_ge oge (em_fld (pv 0) h_cls_Lines h_noat_Lines_at) (em_callB call_lenA olen (by rfl) h_free_len boot_len (am_cons (em_fld (pv 0) h_cls_Lines h_noat_Lines_rows) (am_nil))) (nomark _)))
theorem ok_Lines_peek (c : He.SaysD fa fn K) (KX : K.In base) (G : base.Ns mainGlobals mg) : ∃ fd, OkF P w K mg base 3 (He.fAd K ("Lines", some "peek")) ["self", "forms"] [true, false] (F_Lines_peek (He.ga K "Lines")) fd := by
  obtain ⟨fd, F⟩ := c.def_ 6 (d := d_Lines_peek) rfl
  obtain ⟨fd_Lines_is_done, g_Lines_is_done⟩ := ok_Lines_is_done (P := P) (w := w) c KX G
  obtain ⟨fd_numbers_of, g_numbers_of⟩ := ok_numbers_of (P := P) (w := w) c KX G
  have h_cls_Lines := He.cls_ok (c.fact 8 (f := .cls "Lines") rfl)
  have h_noat_Lines_rows := He.noat_ok (c.fact 9 (f := .noat "Lines" "rows") rfl)
  have h_noat_Lines_at := He.noat_ok (c.fact 10 (f := .noat "Lines" "at") rfl)
  have h_meth_Lines_is_done := He.meth_ok (c.fact 11 (f := .meth "Lines" "is_done") rfl)
  have h_glo_numbers_of := He.glo_ok KX G (c.fact 12 (f := .glo "numbers_of") rfl)
  have h_free_len := He.free_ok KX G (c.fact 2 (f := .free "len") rfl)
  refine ⟨fd, fn_okM (N := ["self", "forms", "words", "numbers", "many"]) (ps := ["self", "forms"]) (fl := [true, false]) (mb := m_Lines_peek (He.ga K "Lines")) F ⟨rfl, rfl, rfl, by decide +kernel, rfl, by decide +kernel, by decide +kernel⟩ rfl (fun _ _ _ _ _ _ us hl => match us, hl with | [_, _], _ => rfl) fun cdv A outer s H vs E hr => ?_⟩
  have tk : Takes (cxOf (L2.CX P w) P w K mg base ["self", "forms", "words", "numbers", "many"] d_Lines_peek.qual d_Lines_peek.scope (He.fAd K ("Lines", some "peek")) cdv A outer s H E) (Wf E) := takes_of rfl rfl rfl rfl
  have hN : (["self", "forms", "words", "numbers", "many"] : List Str).Nodup := by decide +kernel
  exact sm_cons (sm_if (tm_w (wm_or (tm_tru (em_meth0 (em_var (pv 0)) h_cls_Lines h_meth_Lines_is_done g_Lines_is_done.ok tk (hr.mono (by decide)) g_Lines_is_done.binds)) (wm_or1 (tm_not (tm_tru (em_ix ix_seq oix (em_ix ix_seq oix (em_fld (pv 0) h_cls_Lines h_noat_Lines_rows) (em_fld (pv 0) h_cls_Lines h_noat_Lines_at) (fun _ _ => rfl)) (em_int) (fun _ _ => rfl))))))) (sm_one (sm_ret (em_non))) (sm_nil)) (sm_cons (sm_set hN rfl (by first | exact .inl rfl | exact .inr rfl) (pin_no rfl) (em_frz (em_split (em_ix ix_seq oix (em_ix ix_seq oix (em_fld (pv 0) h_cls_Lines h_noat_Lines_rows) (em_fld (pv 0) h_cls_Lines h_noat_Lines_at) (fun _ _ => rfl)) (em_int) (fun _ _ => rfl)) (em_str (l := [32]))))) (sm_cons (sm_set hN rfl (by first | exact .inl rfl | exact .inr rfl) (pin_no rfl) (em_call g_numbers_of.ok tk (hr.mono (by decide)) (by rfl) h_glo_numbers_of g_numbers_of.kp g_numbers_of.binds (am_cons (em_frz (em_sl10 (em_var (pv 2)) (em_int))) (am_nil)))) (sm_cons (sm_if (tm_w (wm_or (tm_cmp (op_dnin (room1 hr)) odnin (em_ix ix_seq oix (em_var (pv 2)) (em_int) (fun _ _ => rfl)) (em_var (pv 1)) (by rfl)) (wm_or1 (tm_cmp op_isN oisN (em_var (pv 3)) (em_non) (nomark _))))) (sm_one (sm_ret (em_non))) (sm_nil)) (sm_cons (sm_set hN rfl (by first | exact .inl rfl | exact .inr rfl) (pin_no rfl) (em_dix (room1 hr) (em_var (pv 1)) (em_ix ix_seq oix (em_var (pv 2)) (em_int) (fun _ _ => rfl)) (fun _ _ => rfl))) (sm_one (sm_ret (em_if (tm_cmp (op_inA (room65 hr)) oin (em_var (pv 4)) (em_tup (am_cons (em_neg (em_int)) (am_cons (em_callB call_lenA olen (by rfl) h_free_len boot_len (am_cons (em_var (pv 3)) (am_nil))) (am_nil)))) (by rfl)) (em_tup (am_cons (em_ix ix_seq oix (em_var (pv 2)) (em_int) (fun _ _ => rfl)) (am_cons (em_var (pv 3)) (am_nil)))) (em_non))))))))
theorem ok_Lines_take (c : He.SaysD fa fn K) (KX : K.In base) (G : base.Ns mainGlobals mg) : ∃ fd, OkF P w K mg base 4 (He.fAd K ("Lines", some "take")) ["self", "forms"] [true, false] (F_Lines_take (He.ga K "Lines")) fd := by
  obtain ⟨fd, F⟩ := c.def_ 7 (d := d_Lines_take) rfl
  obtain ⟨fd_Lines_peek, g_Lines_peek⟩ := ok_Lines_peek (P := P) (w := w) c KX G
  have h_cls_Lines := He.cls_ok (c.fact 8 (f := .cls "Lines") rfl)
  have h_meth_Lines_peek := He.meth_ok (c.fact 13 (f := .meth "Lines" "peek") rfl)
  have h_noat_Lines_at := He.noat_ok (c.fact 10 (f := .noat "Lines" "at") rfl)
  refine ⟨fd, fn_okM (N := ["self", "forms", "found"]) (ps := ["self", "forms"]) (fl := [true, false]) (mb := m_Lines_take (He.ga K "Lines")) F ⟨rfl, rfl, rfl, by decide +kernel, rfl, by decide +kernel, by decide +kernel⟩ rfl (fun _ _ _ _ _ _ us hl => match us, hl with | [_, _], _ => rfl) fun cdv A outer s H vs E hr => ?_⟩
  have tk : Takes (cxOf (L2.CX P w) P w K mg base ["self", "forms", "found"] d_Lines_take.qual d_Lines_take.scope (He.fAd K ("Lines", some "take")) cdv A outer s H E) (Wf E) := takes_of rfl rfl rfl rfl
  have hN : (["self", "forms", "found"] : List Str).Nodup := by decide +kernel
  exact sm_cons (sm_set hN rfl (by first | exact .inl rfl | exact .inr rfl) (pin_no rfl) (em_meth (em_var (pv 0)) h_cls_Lines h_meth_Lines_peek g_Lines_peek.ok tk (hr.mono (by decide)) g_Lines_peek.binds (am_cons (em_var (pv 1)) (am_nil)))) (sm_cons (sm_if (tm_cmp op_isN oisN (em_var (pv 2)) (em_non) (nomark _)) (sms_never) (sm_nil)) (sm_cons (sm_augF (pv 0) (em_int) h_cls_Lines h_noat_Lines_at in_add (fun _ _ _ _ q => ⟨_, _, rfl, rfl, q⟩)) (sm_one (sm_ret (em_var (pv 2))))))
theorem ok_Lines_finish (c : He.SaysD fa fn K) (KX : K.In base) (G : base.Ns mainGlobals mg) : ∃ fd, OkF P w K mg base 2 (He.fAd K ("Lines", some "finish")) ["self"] [true] (F_Lines_finish (He.ga K "Lines")) fd := by
  obtain ⟨fd, F⟩ := c.def_ 8 (d := d_Lines_finish) rfl
  obtain ⟨fd_Lines_is_done, g_Lines_is_done⟩ := ok_Lines_is_done (P := P) (w := w) c KX G
  have h_cls_Lines := He.cls_ok (c.fact 8 (f := .cls "Lines") rfl)
  have h_meth_Lines_is_done := He.meth_ok (c.fact 11 (f := .meth "Lines" "is_done") rfl)
  refine ⟨fd, fn_okM (N := ["self"]) (ps := ["self"]) (fl := [true]) (mb := m_Lines_finish (He.ga K "Lines")) F ⟨rfl, rfl, rfl, by decide +kernel, rfl, by decide +kernel, by decide +kernel⟩ rfl (fun _ _ _ _ _ _ us hl => match us, hl with | [_], _ => rfl) fun cdv A outer s H vs E hr => ?_⟩
  have tk : Takes (cxOf (L2.CX P w) P w K mg base ["self"] d_Lines_finish.qual d_Lines_finish.scope (He.fAd K ("Lines", some "finish")) cdv A outer s H E) (Wf E) := takes_of rfl rfl rfl rfl
  exact sm_one (sm_if (tm_not (tm_tru (em_meth0 (em_var (pv 0)) h_cls_Lines h_meth_Lines_is_done g_Lines_is_done.ok tk (hr.mono (by decide)) g_Lines_is_done.binds))) (sms_never) (sm_nil))
theorem ok_taken_rows (c : He.SaysD fa fn K) (KX : K.In base) (G : base.Ns mainGlobals mg) : ∃ fd, OkF P w K mg base 5 (He.fAd K ("taken_rows", none)) ["reader", "word"] [true, false] (F_taken_rows (He.ga K "Lines")) fd := by
  obtain ⟨fd, F⟩ := c.def_ 9 (d := d_taken_rows) rfl
  obtain ⟨fd_Lines_peek, g_Lines_peek⟩ := ok_Lines_peek (P := P) (w := w) c KX G
  obtain ⟨fd_Lines_take, g_Lines_take⟩ := ok_Lines_take (P := P) (w := w) c KX G
  have h_cls_Lines := He.cls_ok (c.fact 8 (f := .cls "Lines") rfl)
  have h_meth_Lines_peek := He.meth_ok (c.fact 13 (f := .meth "Lines" "peek") rfl)
  have h_meth_Lines_take := He.meth_ok (c.fact 14 (f := .meth "Lines" "take") rfl)
  have h_free_tuple := He.free_ok KX G (c.fact 5 (f := .free "tuple") rfl)
  refine ⟨fd, fn_okM (N := ["reader", "word", "found"]) (ps := ["reader", "word"]) (fl := [true, false]) (mb := m_taken_rows (He.ga K "Lines")) F ⟨rfl, rfl, rfl, by decide +kernel, rfl, by decide +kernel, by decide +kernel⟩ rfl (fun _ _ _ _ _ _ us hl => match us, hl with | [_, _], _ => rfl) fun cdv A outer s H vs E hr => ?_⟩
  have tk : Takes (cxOf (L2.CX P w) P w K mg base ["reader", "word", "found"] d_taken_rows.qual d_taken_rows.scope (He.fAd K ("taken_rows", none)) cdv A outer s H E) (Wf E) := takes_of rfl rfl rfl rfl
  have hN : (["reader", "word", "found"] : List Str).Nodup := by decide +kernel
  have hpo := passes_of (X := cxOf (L2.CX P w) P w K mg base ["reader", "word", "found"] d_taken_rows.qual d_taken_rows.scope (He.fAd K ("taken_rows", none)) cdv A outer s H E) rfl
  exact sm_cons (sm_set hN rfl (by first | exact .inl rfl | exact .inr rfl) (pin_no rfl) (em_lst (am_nil))) (sm_cons (sm_while hpo (tm_cmp op_notN onotN (em_meth (em_var (pv 0)) h_cls_Lines h_meth_Lines_peek g_Lines_peek.ok tk (hr.mono (by decide)) g_Lines_peek.binds (am_cons (em_frz (em_dic (pps_cons (em_var (pv 1)) (em_neg (em_int)) (pps_nil)) (prs_cons (prs_nil)))) (am_nil))) (em_non) (nomark _)) (sm_one (sm_expr (em_mut mt_append mapp PySem.F.slot_list_append PySem.F.type_list_append (pv 2) (am_cons (em_ix ix_seq oix (em_meth (em_var (pv 0)) h_cls_Lines h_meth_Lines_take g_Lines_take.ok tk (hr.mono (by decide)) g_Lines_take.binds (am_cons (em_frz (em_dic (pps_cons (em_var (pv 1)) (em_neg (em_int)) (pps_nil)) (prs_cons (prs_nil)))) (am_nil))) (em_int) (fun _ _ => rfl)) (am_nil)))))) (sm_one (sm_ret (em_callTy call_tuple_of otuple (by rfl) h_free_tuple boot_tuple (am_cons (em_var (pv 2)) (am_nil))))))
theorem ok_written_locks (c : He.SaysD fa fn K) (KX : K.In base) (G : base.Ns mainGlobals mg) : ∃ fd, OkF P w K mg base 2 (He.fAd K ("written_locks", none)) ["locks"] [false] (F_written_locks (He.ga K "Lines")) fd := by
  obtain ⟨fd, F⟩ := c.def_ 10 (d := d_written_locks) rfl
  obtain ⟨fd_line, g_line⟩ := ok_line (P := P) (w := w) c KX G
  have h_glo_line := He.glo_ok KX G (c.fact 15 (f := .glo "line") rfl)
  refine ⟨fd, fn_okM (N := ["locks", "lock", "cuts"]) (ps := ["locks"]) (fl := [false]) (mb := m_written_locks (He.ga K "Lines")) F ⟨rfl, rfl, rfl, by decide +kernel, rfl, by decide +kernel, by decide +kernel⟩ rfl (fun _ _ _ _ _ _ us hl => match us, hl with | [_], _ => rfl) fun cdv A outer s H vs E hr => ?_⟩
  have tk : Takes (cxOf (L2.CX P w) P w K mg base ["locks", "lock", "cuts"] d_written_locks.qual d_written_locks.scope (He.fAd K ("written_locks", none)) cdv A outer s H E) (Wf E) := takes_of rfl rfl rfl rfl
  have hN : (["locks", "lock", "cuts"] : List Str).Nodup := by decide +kernel
  exact sm_one (sm_ret (em_join (em_str (l := [])) (em_lc rfl hN (im_seq (em_var (pv 0))) (blkOk_by (own := [("lock", 1)]) rfl) (fun _ _ _ _ _ => gm_name hN rfl (by first | exact .inl rfl | exact .inr rfl) rfl) (fun _ _ _ _ _ => tms_nil) (fun _ _ _ _ _ => em_op op_addAll oaddAll (em_str (l := [108, 111, 99, 107, 10])) (em_join (em_str (l := [])) (em_lc rfl hN (im_seq (em_var (pv 1))) (blkOk_by (own := [("cuts", 2)]) rfl) (fun _ _ _ _ _ => gm_name hN rfl (by first | exact .inl rfl | exact .inr rfl) rfl) (fun _ _ _ _ _ => tms_nil) (fun _ _ _ _ _ => em_call g_line.ok takes0 (hr.mono (by decide)) (by rfl) h_glo_line g_line.kp g_line.binds (am_cons (em_str (l := [99, 104, 97, 109, 98, 101, 114])) (am_cons (em_var (pv 2)) (am_nil)))) (by decide)))) (by decide))))
theorem ok_locks_of (c : He.SaysD fa fn K) (KX : K.In base) (G : base.Ns mainGlobals mg) : ∃ fd, OkF P w K mg base 6 (He.fAd K ("locks_of", none)) ["reader"] [true] (F_locks_of (He.ga K "Lines")) fd := by
  obtain ⟨fd, F⟩ := c.def_ 11 (d := d_locks_of) rfl
  obtain ⟨fd_Lines_peek, g_Lines_peek⟩ := ok_Lines_peek (P := P) (w := w) c KX G
  obtain ⟨fd_Lines_take, g_Lines_take⟩ := ok_Lines_take (P := P) (w := w) c KX G
  obtain ⟨fd_taken_rows, g_taken_rows⟩ := ok_taken_rows (P := P) (w := w) c KX G
  have h_cls_Lines := He.cls_ok (c.fact 8 (f := .cls "Lines") rfl)
  have h_meth_Lines_peek := He.meth_ok (c.fact 13 (f := .meth "Lines" "peek") rfl)
  have h_meth_Lines_take := He.meth_ok (c.fact 14 (f := .meth "Lines" "take") rfl)
  have h_glo_taken_rows := He.glo_ok KX G (c.fact 16 (f := .glo "taken_rows") rfl)
  have h_free_tuple := He.free_ok KX G (c.fact 5 (f := .free "tuple") rfl)
  refine ⟨fd, fn_okM (N := ["reader", "found"]) (ps := ["reader"]) (fl := [true]) (mb := m_locks_of (He.ga K "Lines")) F ⟨rfl, rfl, rfl, by decide +kernel, rfl, by decide +kernel, by decide +kernel⟩ rfl (fun _ _ _ _ _ _ us hl => match us, hl with | [_], _ => rfl) fun cdv A outer s H vs E hr => ?_⟩
  have tk : Takes (cxOf (L2.CX P w) P w K mg base ["reader", "found"] d_locks_of.qual d_locks_of.scope (He.fAd K ("locks_of", none)) cdv A outer s H E) (Wf E) := takes_of rfl rfl rfl rfl
  have hN : (["reader", "found"] : List Str).Nodup := by decide +kernel
  have hpo := passes_of (X := cxOf (L2.CX P w) P w K mg base ["reader", "found"] d_locks_of.qual d_locks_of.scope (He.fAd K ("locks_of", none)) cdv A outer s H E) rfl
  exact sm_cons (sm_set hN rfl (by first | exact .inl rfl | exact .inr rfl) (pin_no rfl) (em_lst (am_nil))) (sm_cons (sm_while hpo (tm_cmp op_notN onotN (em_meth (em_var (pv 0)) h_cls_Lines h_meth_Lines_peek g_Lines_peek.ok tk (hr.mono (by decide)) g_Lines_peek.binds (am_cons (em_frz (em_dic (pps_cons (em_str (l := [108, 111, 99, 107])) (em_int) (pps_nil)) (prs_cons (prs_nil)))) (am_nil))) (em_non) (nomark _)) (sm_cons (sm_expr (em_meth (em_var (pv 0)) h_cls_Lines h_meth_Lines_take g_Lines_take.ok tk (hr.mono (by decide)) g_Lines_take.binds (am_cons (em_frz (em_dic (pps_cons (em_str (l := [108, 111, 99, 107])) (em_int) (pps_nil)) (prs_cons (prs_nil)))) (am_nil)))) (sm_one (sm_expr (em_mut mt_append mapp PySem.F.slot_list_append PySem.F.type_list_append (pv 1) (am_cons (em_call g_taken_rows.ok tk (hr.mono (by decide)) (by rfl) h_glo_taken_rows g_taken_rows.kp g_taken_rows.binds (am_cons (em_var (pv 0)) (am_cons (em_str (l := [99, 104, 97, 109, 98, 101, 114])) (am_nil)))) (am_nil))))))) (sm_one (sm_ret (em_callTy call_tuple_of otuple (by rfl) h_free_tuple boot_tuple (am_cons (em_var (pv 1)) (am_nil))))))
theorem ok_write_house (c : He.SaysD fa fn K) (KX : K.In base) (G : base.Ns mainGlobals mg) : ∃ fd, OkF P w K mg base 3 (He.fAd K ("write_house", none)) ["house"] [false] (F_write_house (He.ga K "Lines")) fd := by
  obtain ⟨fd, F⟩ := c.def_ 12 (d := d_write_house) rfl
  obtain ⟨fd_line, g_line⟩ := ok_line (P := P) (w := w) c KX G
  obtain ⟨fd_written_locks, g_written_locks⟩ := ok_written_locks (P := P) (w := w) c KX G
  have h_glo_line := He.glo_ok KX G (c.fact 15 (f := .glo "line") rfl)
  have h_glo_written_locks := He.glo_ok KX G (c.fact 17 (f := .glo "written_locks") rfl)
  refine ⟨fd, fn_okM (N := ["house", "key_line", "some_keys", "pinnings", "places", "tries", "found", "pinning", "key"]) (ps := ["house"]) (fl := [false]) (mb := m_write_house (He.ga K "Lines")) F ⟨rfl, rfl, rfl, by decide +kernel, rfl, by decide +kernel, by decide +kernel⟩ rfl (fun _ _ _ _ _ _ us hl => match us, hl with | [_], _ => rfl) fun cdv A outer s H vs E hr => ?_⟩
  have tk : Takes (cxOf (L2.CX P w) P w K mg base ["house", "key_line", "some_keys", "pinnings", "places", "tries", "found", "pinning", "key"] d_write_house.qual d_write_house.scope (He.fAd K ("write_house", none)) cdv A outer s H E) (Wf E) := takes_of rfl rfl rfl rfl
  have hN : (["house", "key_line", "some_keys", "pinnings", "places", "tries", "found", "pinning", "key"] : List Str).Nodup := by decide +kernel
  exact sm_cons (sm_asg (em_var (pv 0)) (gm_tup rfl (gsm_cons (gm_name hN rfl (by first | exact .inl rfl | exact .inr rfl) (pin_no rfl)) (gsm_cons (gm_name hN rfl (by first | exact .inl rfl | exact .inr rfl) (pin_no rfl)) (gsm_cons (gm_name hN rfl (by first | exact .inl rfl | exact .inr rfl) (pin_no rfl)) (gsm_cons (gm_name hN rfl (by first | exact .inl rfl | exact .inr rfl) (pin_no rfl)) (gsm_cons (gm_name hN rfl (by first | exact .inl rfl | exact .inr rfl) (pin_no rfl)) (gsm_nil)))))))) (sm_cons (sm_set hN rfl (by first | exact .inl rfl | exact .inr rfl) (pin_no rfl) (em_op op_addAll oaddAll (em_call g_line.ok tk (hr.mono (by decide)) (by rfl) h_glo_line g_line.kp g_line.binds (am_cons (em_str (l := [108, 105, 110, 101])) (am_cons (em_var (pv 1)) (am_nil)))) (em_join (em_str (l := [])) (em_lc rfl hN (im_seq (em_var (pv 2))) (blkOk_by (own := [("key", 8)]) rfl) (fun _ _ _ _ _ => gm_name hN rfl (by first | exact .inl rfl | exact .inr rfl) rfl) (fun _ _ _ _ _ => tms_nil) (fun _ _ _ _ _ => em_call g_line.ok takes0 (hr.mono (by decide)) (by rfl) h_glo_line g_line.kp g_line.binds (am_cons (em_str (l := [107, 101, 121])) (am_cons (em_var (pv 8)) (am_nil)))) (by decide))))) (sm_cons (sm_aug hN rfl (by first | exact .inl rfl | exact .inr rfl) (pin_no rfl) iop_aug oaug (em_join (em_str (l := [])) (em_lc rfl hN (im_seq (em_var (pv 3))) (blkOk_by (own := [("pinning", 7)]) rfl) (fun _ _ _ _ _ => gm_name hN rfl (by first | exact .inl rfl | exact .inr rfl) rfl) (fun _ _ _ _ _ => tms_nil) (fun _ _ _ _ _ => em_op op_addAll oaddAll (em_str (l := [112, 105, 110, 110, 105, 110, 103, 10])) (em_call g_written_locks.ok takes0 (hr.mono (by decide)) (by rfl) h_glo_written_locks g_written_locks.kp g_written_locks.binds (am_cons (em_var (pv 7)) (am_nil)))) (by decide)))) (sm_one (sm_ret (em_op op_addAll oaddAll (em_op op_addAll oaddAll (em_var (pv 6)) (em_call g_line.ok tk (hr.mono (by decide)) (by rfl) h_glo_line g_line.kp g_line.binds (am_cons (em_str (l := [112, 108, 97, 99, 101, 115])) (am_cons (em_var (pv 4)) (am_nil))))) (em_call g_line.ok tk (hr.mono (by decide)) (by rfl) h_glo_line g_line.kp g_line.binds (am_cons (em_str (l := [116, 114, 105, 101, 115])) (am_cons (em_tup (am_cons (em_var (pv 5)) (am_nil))) (am_nil)))))))))
theorem ok_read_house (c : He.SaysD fa fn K) (KX : K.In base) (G : base.Ns mainGlobals mg) : ∃ fd, OkF P w K mg base 7 (He.fAd K ("read_house", none)) ["text"] [false] (F_read_house (He.ga K "Lines")) fd := by
  obtain ⟨fd, F⟩ := c.def_ 13 (d := d_read_house) rfl
  obtain ⟨fd_Lines_init, g_Lines_init⟩ := ok_Lines_init (P := P) (w := w) c KX G
  obtain ⟨fd_Lines_take, g_Lines_take⟩ := ok_Lines_take (P := P) (w := w) c KX G
  obtain ⟨fd_taken_rows, g_taken_rows⟩ := ok_taken_rows (P := P) (w := w) c KX G
  obtain ⟨fd_Lines_peek, g_Lines_peek⟩ := ok_Lines_peek (P := P) (w := w) c KX G
  obtain ⟨fd_locks_of, g_locks_of⟩ := ok_locks_of (P := P) (w := w) c KX G
  obtain ⟨fd_Lines_finish, g_Lines_finish⟩ := ok_Lines_finish (P := P) (w := w) c KX G
  have h_mkr_Lines := He.mkr_ok (c.fact 18 (f := .mkr "Lines") rfl)
  have h_glo_Lines := He.glo_ok KX G (c.fact 19 (f := .glo "Lines") rfl)
  have h_cls_Lines := He.cls_ok (c.fact 8 (f := .cls "Lines") rfl)
  have h_meth_Lines_take := He.meth_ok (c.fact 14 (f := .meth "Lines" "take") rfl)
  have h_glo_taken_rows := He.glo_ok KX G (c.fact 16 (f := .glo "taken_rows") rfl)
  have h_meth_Lines_peek := He.meth_ok (c.fact 13 (f := .meth "Lines" "peek") rfl)
  have h_glo_locks_of := He.glo_ok KX G (c.fact 20 (f := .glo "locks_of") rfl)
  have h_meth_Lines_finish := He.meth_ok (c.fact 21 (f := .meth "Lines" "finish") rfl)
  have h_free_tuple := He.free_ok KX G (c.fact 5 (f := .free "tuple") rfl)
  refine ⟨fd, fn_okM (N := ["text", "reader", "key_line", "some_keys", "pinnings", "places", "tries"]) (ps := ["text"]) (fl := [false]) (mb := m_read_house (He.ga K "Lines")) F ⟨rfl, rfl, rfl, by decide +kernel, rfl, by decide +kernel, by decide +kernel⟩ rfl (fun _ _ _ _ _ _ us hl => match us, hl with | [_], _ => rfl) fun cdv A outer s H vs E hr => ?_⟩
  have tk : Takes (cxOf (L2.CX P w) P w K mg base ["text", "reader", "key_line", "some_keys", "pinnings", "places", "tries"] d_read_house.qual d_read_house.scope (He.fAd K ("read_house", none)) cdv A outer s H E) (Wf E) := takes_of rfl rfl rfl rfl
  have hN : (["text", "reader", "key_line", "some_keys", "pinnings", "places", "tries"] : List Str).Nodup := by decide +kernel
  have hpo := passes_of (X := cxOf (L2.CX P w) P w K mg base ["text", "reader", "key_line", "some_keys", "pinnings", "places", "tries"] d_read_house.qual d_read_house.scope (He.fAd K ("read_house", none)) cdv A outer s H E) rfl
  exact sm_cons (sm_set hN rfl (by first | exact .inl rfl | exact .inr rfl) (pin_no rfl) (em_make (n := 1) h_mkr_Lines g_Lines_init.ok tk (hr.mono (by decide)) (by rfl) h_glo_Lines g_Lines_init.binds rfl (len_cons (len_nil)) (am_cons (em_var (pv 0)) (am_nil)))) (sm_cons (sm_set hN rfl (by first | exact .inl rfl | exact .inr rfl) (pin_no rfl) (em_ix ix_seq oix (em_meth (em_var (pv 1)) h_cls_Lines h_meth_Lines_take g_Lines_take.ok tk (hr.mono (by decide)) g_Lines_take.binds (am_cons (em_frz (em_dic (pps_cons (em_str (l := [108, 105, 110, 101])) (em_int) (pps_nil)) (prs_cons (prs_nil)))) (am_nil))) (em_int) (fun _ _ => rfl))) (sm_cons (sm_set hN rfl (by first | exact .inl rfl | exact .inr rfl) (pin_no rfl) (em_call g_taken_rows.ok tk (hr.mono (by decide)) (by rfl) h_glo_taken_rows g_taken_rows.kp g_taken_rows.binds (am_cons (em_var (pv 1)) (am_cons (em_str (l := [107, 101, 121])) (am_nil))))) (sm_cons (sm_set hN rfl (by first | exact .inl rfl | exact .inr rfl) (pin_no rfl) (em_lst (am_nil))) (sm_cons (sm_while hpo (tm_cmp op_notN onotN (em_meth (em_var (pv 1)) h_cls_Lines h_meth_Lines_peek g_Lines_peek.ok tk (hr.mono (by decide)) g_Lines_peek.binds (am_cons (em_frz (em_dic (pps_cons (em_str (l := [112, 105, 110, 110, 105, 110, 103])) (em_int) (pps_nil)) (prs_cons (prs_nil)))) (am_nil))) (em_non) (nomark _)) (sm_cons (sm_expr (em_meth (em_var (pv 1)) h_cls_Lines h_meth_Lines_take g_Lines_take.ok tk (hr.mono (by decide)) g_Lines_take.binds (am_cons (em_frz (em_dic (pps_cons (em_str (l := [112, 105, 110, 110, 105, 110, 103])) (em_int) (pps_nil)) (prs_cons (prs_nil)))) (am_nil)))) (sm_one (sm_expr (em_mut mt_append mapp PySem.F.slot_list_append PySem.F.type_list_append (pv 4) (am_cons (em_call g_locks_of.ok tk (hr.mono (by decide)) (by rfl) h_glo_locks_of g_locks_of.kp g_locks_of.binds (am_cons (em_var (pv 1)) (am_nil))) (am_nil))))))) (sm_cons (sm_set hN rfl (by first | exact .inl rfl | exact .inr rfl) (pin_no rfl) (em_ix ix_seq oix (em_meth (em_var (pv 1)) h_cls_Lines h_meth_Lines_take g_Lines_take.ok tk (hr.mono (by decide)) g_Lines_take.binds (am_cons (em_frz (em_dic (pps_cons (em_str (l := [112, 108, 97, 99, 101, 115])) (em_neg (em_int)) (pps_nil)) (prs_cons (prs_nil)))) (am_nil))) (em_int) (fun _ _ => rfl))) (sm_cons (sm_set hN rfl (by first | exact .inl rfl | exact .inr rfl) (pin_no rfl) (em_ix ix_seq oix (em_ix ix_seq oix (em_meth (em_var (pv 1)) h_cls_Lines h_meth_Lines_take g_Lines_take.ok tk (hr.mono (by decide)) g_Lines_take.binds (am_cons (em_frz (em_dic (pps_cons (em_str (l := [116, 114, 105, 101, 115])) (em_int) (pps_nil)) (prs_cons (prs_nil)))) (am_nil))) (em_int) (fun _ _ => rfl)) (em_int) (fun _ _ => rfl))) (sm_cons (sm_expr (em_meth0 (em_var (pv 1)) h_cls_Lines h_meth_Lines_finish g_Lines_finish.ok tk (hr.mono (by decide)) g_Lines_finish.binds)) (sm_one (sm_ret (em_tup (am_cons (em_var (pv 2)) (am_cons (em_var (pv 3)) (am_cons (em_callTy call_tuple_of otuple (by rfl) h_free_tuple boot_tuple (am_cons (em_var (pv 4)) (am_nil))) (am_cons (em_var (pv 5)) (am_cons (em_var (pv 6)) (am_nil))))))))))))))))
theorem ok_write_stand (c : He.SaysD fa fn K) (KX : K.In base) (G : base.Ns mainGlobals mg) : ∃ fd, OkF P w K mg base 2 (He.fAd K ("write_stand", none)) ["stand"] [false] (F_write_stand (He.ga K "Lines")) fd := by
  obtain ⟨fd, F⟩ := c.def_ 14 (d := d_write_stand) rfl
  obtain ⟨fd_line, g_line⟩ := ok_line (P := P) (w := w) c KX G
  have h_glo_line := He.glo_ok KX G (c.fact 15 (f := .glo "line") rfl)
  refine ⟨fd, fn_okM (N := ["stand", "found", "key"]) (ps := ["stand"]) (fl := [false]) (mb := m_write_stand (He.ga K "Lines")) F ⟨rfl, rfl, rfl, by decide +kernel, rfl, by decide +kernel, by decide +kernel⟩ rfl (fun _ _ _ _ _ _ us hl => match us, hl with | [_], _ => rfl) fun cdv A outer s H vs E hr => ?_⟩
  have tk : Takes (cxOf (L2.CX P w) P w K mg base ["stand", "found", "key"] d_write_stand.qual d_write_stand.scope (He.fAd K ("write_stand", none)) cdv A outer s H E) (Wf E) := takes_of rfl rfl rfl rfl
  have hN : (["stand", "found", "key"] : List Str).Nodup := by decide +kernel
  exact sm_cons (sm_set hN rfl (by first | exact .inl rfl | exact .inr rfl) (pin_no rfl) (em_join (em_str (l := [])) (em_lc rfl hN (im_seq (em_ix ix_seq oix (em_var (pv 0)) (em_int) (fun _ _ => rfl))) (blkOk_by (own := [("key", 2)]) rfl) (fun _ _ _ _ _ => gm_name hN rfl (by first | exact .inl rfl | exact .inr rfl) rfl) (fun _ _ _ _ _ => tms_nil) (fun _ _ _ _ _ => em_call g_line.ok takes0 (hr.mono (by decide)) (by rfl) h_glo_line g_line.kp g_line.binds (am_cons (em_str (l := [107, 101, 121])) (am_cons (em_var (pv 2)) (am_nil)))) (by decide)))) (sm_one (sm_ret (em_op op_addAll oaddAll (em_op op_addAll oaddAll (em_var (pv 1)) (em_call g_line.ok tk (hr.mono (by decide)) (by rfl) h_glo_line g_line.kp g_line.binds (am_cons (em_str (l := [112, 105, 110, 110, 105, 110, 103, 115])) (am_cons (em_ix ix_seq oix (em_var (pv 0)) (em_int) (fun _ _ => rfl)) (am_nil))))) (em_call g_line.ok tk (hr.mono (by decide)) (by rfl) h_glo_line g_line.kp g_line.binds (am_cons (em_str (l := [116, 114, 105, 101, 115])) (am_cons (em_tup (am_cons (em_ix ix_seq oix (em_var (pv 0)) (em_int) (fun _ _ => rfl)) (am_nil))) (am_nil)))))))
theorem ok_stand_of (c : He.SaysD fa fn K) (KX : K.In base) (G : base.Ns mainGlobals mg) : ∃ fd, OkF P w K mg base 6 (He.fAd K ("stand_of", none)) ["reader"] [true] (F_stand_of (He.ga K "Lines")) fd := by
  obtain ⟨fd, F⟩ := c.def_ 15 (d := d_stand_of) rfl
  obtain ⟨fd_taken_rows, g_taken_rows⟩ := ok_taken_rows (P := P) (w := w) c KX G
  obtain ⟨fd_Lines_take, g_Lines_take⟩ := ok_Lines_take (P := P) (w := w) c KX G
  have h_glo_taken_rows := He.glo_ok KX G (c.fact 16 (f := .glo "taken_rows") rfl)
  have h_cls_Lines := He.cls_ok (c.fact 8 (f := .cls "Lines") rfl)
  have h_meth_Lines_take := He.meth_ok (c.fact 14 (f := .meth "Lines" "take") rfl)
  refine ⟨fd, fn_okM (N := ["reader", "some_keys", "pinnings"]) (ps := ["reader"]) (fl := [true]) (mb := m_stand_of (He.ga K "Lines")) F ⟨rfl, rfl, rfl, by decide +kernel, rfl, by decide +kernel, by decide +kernel⟩ rfl (fun _ _ _ _ _ _ us hl => match us, hl with | [_], _ => rfl) fun cdv A outer s H vs E hr => ?_⟩
  have tk : Takes (cxOf (L2.CX P w) P w K mg base ["reader", "some_keys", "pinnings"] d_stand_of.qual d_stand_of.scope (He.fAd K ("stand_of", none)) cdv A outer s H E) (Wf E) := takes_of rfl rfl rfl rfl
  have hN : (["reader", "some_keys", "pinnings"] : List Str).Nodup := by decide +kernel
  exact sm_cons (sm_set hN rfl (by first | exact .inl rfl | exact .inr rfl) (pin_no rfl) (em_call g_taken_rows.ok tk (hr.mono (by decide)) (by rfl) h_glo_taken_rows g_taken_rows.kp g_taken_rows.binds (am_cons (em_var (pv 0)) (am_cons (em_str (l := [107, 101, 121])) (am_nil))))) (sm_cons (sm_set hN rfl (by first | exact .inl rfl | exact .inr rfl) (pin_no rfl) (em_ix ix_seq oix (em_meth (em_var (pv 0)) h_cls_Lines h_meth_Lines_take g_Lines_take.ok tk (hr.mono (by decide)) g_Lines_take.binds (am_cons (em_frz (em_dic (pps_cons (em_str (l := [112, 105, 110, 110, 105, 110, 103, 115])) (em_neg (em_int)) (pps_nil)) (prs_cons (prs_nil)))) (am_nil))) (em_int) (fun _ _ => rfl))) (sm_one (sm_ret (em_tup (am_cons (em_var (pv 1)) (am_cons (em_var (pv 2)) (am_cons (em_ix ix_seq oix (em_ix ix_seq oix (em_meth (em_var (pv 0)) h_cls_Lines h_meth_Lines_take g_Lines_take.ok tk (hr.mono (by decide)) g_Lines_take.binds (am_cons (em_frz (em_dic (pps_cons (em_str (l := [116, 114, 105, 101, 115])) (em_int) (pps_nil)) (prs_cons (prs_nil)))) (am_nil))) (em_int) (fun _ _ => rfl)) (em_int) (fun _ _ => rfl)) (am_nil))))))))
theorem ok_read_stand (c : He.SaysD fa fn K) (KX : K.In base) (G : base.Ns mainGlobals mg) : ∃ fd, OkF P w K mg base 7 (He.fAd K ("read_stand", none)) ["text"] [false] (F_read_stand (He.ga K "Lines")) fd := by
  obtain ⟨fd, F⟩ := c.def_ 16 (d := d_read_stand) rfl
  obtain ⟨fd_Lines_init, g_Lines_init⟩ := ok_Lines_init (P := P) (w := w) c KX G
  obtain ⟨fd_stand_of, g_stand_of⟩ := ok_stand_of (P := P) (w := w) c KX G
  obtain ⟨fd_Lines_finish, g_Lines_finish⟩ := ok_Lines_finish (P := P) (w := w) c KX G
  have h_mkr_Lines := He.mkr_ok (c.fact 18 (f := .mkr "Lines") rfl)
  have h_glo_Lines := He.glo_ok KX G (c.fact 19 (f := .glo "Lines") rfl)
  have h_glo_stand_of := He.glo_ok KX G (c.fact 22 (f := .glo "stand_of") rfl)
  have h_cls_Lines := He.cls_ok (c.fact 8 (f := .cls "Lines") rfl)
  have h_meth_Lines_finish := He.meth_ok (c.fact 21 (f := .meth "Lines" "finish") rfl)
  refine ⟨fd, fn_okM (N := ["text", "reader", "found"]) (ps := ["text"]) (fl := [false]) (mb := m_read_stand (He.ga K "Lines")) F ⟨rfl, rfl, rfl, by decide +kernel, rfl, by decide +kernel, by decide +kernel⟩ rfl (fun _ _ _ _ _ _ us hl => match us, hl with | [_], _ => rfl) fun cdv A outer s H vs E hr => ?_⟩
  have tk : Takes (cxOf (L2.CX P w) P w K mg base ["text", "reader", "found"] d_read_stand.qual d_read_stand.scope (He.fAd K ("read_stand", none)) cdv A outer s H E) (Wf E) := takes_of rfl rfl rfl rfl
  have hN : (["text", "reader", "found"] : List Str).Nodup := by decide +kernel
  exact sm_cons (sm_set hN rfl (by first | exact .inl rfl | exact .inr rfl) (pin_no rfl) (em_make (n := 1) h_mkr_Lines g_Lines_init.ok tk (hr.mono (by decide)) (by rfl) h_glo_Lines g_Lines_init.binds rfl (len_cons (len_nil)) (am_cons (em_var (pv 0)) (am_nil)))) (sm_cons (sm_set hN rfl (by first | exact .inl rfl | exact .inr rfl) (pin_no rfl) (em_call g_stand_of.ok tk (hr.mono (by decide)) (by rfl) h_glo_stand_of g_stand_of.kp g_stand_of.binds (am_cons (em_var (pv 1)) (am_nil)))) (sm_cons (sm_expr (em_meth0 (em_var (pv 1)) h_cls_Lines h_meth_Lines_finish g_Lines_finish.ok tk (hr.mono (by decide)) g_Lines_finish.binds)) (sm_one (sm_ret (em_var (pv 2))))))
theorem ok__law_draws (c : He.SaysD fa fn K) (KX : K.In base) (G : base.Ns mainGlobals mg) : ∃ fd, OkF P w K mg base 1 (He.fAd K ("_law_draws", none)) ["script", "many"] [false, false] (F__law_draws (He.ga K "Lines")) fd := by
  obtain ⟨fd, F⟩ := c.def_ 17 (d := d__law_draws) rfl
  have h_free_int := He.free_ok KX G (c.fact 4 (f := .free "int") rfl)
  have h_free_len := He.free_ok KX G (c.fact 2 (f := .free "len") rfl)
  have h_free_list := He.free_ok KX G (c.fact 23 (f := .free "list") rfl)
  have h_free_range := He.free_ok KX G (c.fact 24 (f := .free "range") rfl)
  refine ⟨fd, fn_okM (N := ["script", "many", "cells", "rest", "draws", "k", "at", "once", "cell"]) (ps := ["script", "many"]) (fl := [false, false]) (mb := m__law_draws (He.ga K "Lines")) F ⟨rfl, rfl, rfl, by decide +kernel, rfl, by decide +kernel, by decide +kernel⟩ rfl (fun _ _ _ _ _ _ us hl => match us, hl with | [_, _], _ => rfl) fun cdv A outer s H vs E hr => ?_⟩
  have tk : Takes (cxOf (L2.CX P w) P w K mg base ["script", "many", "cells", "rest", "draws", "k", "at", "once", "cell"] d__law_draws.qual d__law_draws.scope (He.fAd K ("_law_draws", none)) cdv A outer s H E) (Wf E) := takes_of rfl rfl rfl rfl
  have hN : (["script", "many", "cells", "rest", "draws", "k", "at", "once", "cell"] : List Str).Nodup := by decide +kernel
  have hpo := passes_of (X := cxOf (L2.CX P w) P w K mg base ["script", "many", "cells", "rest", "draws", "k", "at", "once", "cell"] d__law_draws.qual d__law_draws.scope (He.fAd K ("_law_draws", none)) cdv A outer s H E) rfl
  exact sm_cons (sm_setLc rfl hN rfl rfl (by rfl) (pin_no rfl) (im_seq (em_var (pv 0))) (blkOk_by (own := [("cell", 8)]) rfl) (fun _ _ _ _ _ => gm_name hN rfl (by first | exact .inl rfl | exact .inr rfl) rfl) (fun _ _ _ _ _ => tms_nil) (fun _ _ _ _ _ => em_callTy call_intA oint (by rfl) h_free_int boot_int (am_cons (em_var (pv 8)) (am_nil))) (by decide)) (sm_cons (sm_if (tm_cmp (op_eqA hr.units) oeq (em_callB call_lenA olen (by rfl) h_free_len boot_len (am_cons (em_var (pv 2)) (am_nil))) (em_int) (nomark _)) (sm_one (sm_expr (em_mut mt_append mapp PySem.F.slot_list_append PySem.F.type_list_append (pv 2) (am_cons (em_int) (am_nil))))) (sm_nil)) (sm_cons (sm_set hN rfl (by first | exact .inl rfl | exact .inr rfl) (pin_no rfl) (em_callTy call_list_of olist (by rfl) h_free_list boot_list (am_cons (em_var (pv 2)) (am_nil)))) (sm_cons (sm_set hN rfl (by first | exact .inl rfl | exact .inr rfl) (pin_no rfl) (em_lst (am_nil))) (sm_cons (sm_for hpo rfl (im_rng1 (by rfl) h_free_range (em_var (pv 1))) (gm_name hN rfl (by first | exact .inl rfl | exact .inr rfl) (pin_no rfl)) (sm_cons (sm_set hN rfl (by first | exact .inl rfl | exact .inr rfl) (pin_no rfl) (em_op op_mod omod (em_var (pv 5)) (em_callB call_lenA olen (by rfl) h_free_len boot_len (am_cons (em_var (pv 2)) (am_nil))))) (sm_one (sm_if (tm_cmp op_ge oge (em_ix ix_seq oix (em_var (pv 2)) (em_var (pv 6)) (fun _ _ => rfl)) (em_op op_pow opow (em_int) (em_int)) (nomark _)) (sm_cons (sm_expr (em_mut mt_append mapp PySem.F.slot_list_append PySem.F.type_list_append (pv 4) (am_cons (em_op op_mod omod (em_callTy call_intA oint (by rfl) h_free_int boot_int (am_cons (em_ix ix_seq oix (em_var (pv 3)) (em_var (pv 6)) (fun _ _ => rfl)) (am_nil))) (em_int)) (am_nil)))) (sm_one (sm_setIx (pv 3) (em_var (pv 6)) (em_op op_fdiv ofdiv (em_ix ix_seq oix (em_var (pv 3)) (em_var (pv 6)) (fun _ _ => rfl)) (em_int))))) (sm_cons (sm_set hN rfl (by first | exact .inl rfl | exact .inr rfl) (pin_no rfl) (em_op op_mod omod (em_callTy call_intA oint (by rfl) h_free_int boot_int (am_cons (em_op op_addAll oaddAll (em_op op_addAll oaddAll (em_op op_mulAll omulAll (em_ix ix_seq oix (em_var (pv 2)) (em_var (pv 6)) (fun _ _ => rfl)) (em_int)) (em_op op_mulAll omulAll (em_var (pv 5)) (em_int))) (em_int)) (am_nil))) (em_int))) (sm_one (sm_expr (em_mut mt_append mapp PySem.F.slot_list_append PySem.F.type_list_append (pv 4) (am_cons (em_op op_mod omod (em_callTy call_intA oint (by rfl) h_free_int boot_int (am_cons (em_op op_addAll oaddAll (em_op op_addAll oaddAll (em_op op_mulAll omulAll (em_var (pv 7)) (em_var (pv 7))) (em_op op_mulAll omulAll (em_int) (em_var (pv 7)))) (em_var (pv 5))) (am_nil))) (em_int)) (am_nil)))))))))) (sm_cons (sm_expr (em_mut0 mt_reverse mrev PySem.F.slot_list_reverse PySem.F.type_list_reverse (pv 4))) (sm_one (sm_ret (em_mov (em_var (pv 4))))))))))
theorem ok__law_take (c : He.SaysD fa fn K) (KX : K.In base) (G : base.Ns mainGlobals mg) : ∃ fd, OkF P w K mg base 1 (He.fAd K ("_law_take", none)) ["draws", "many"] [true, false] (F__law_take (He.ga K "Lines")) fd := by
  obtain ⟨fd, F⟩ := c.def_ 18 (d := d__law_take) rfl
  have h_free_len := He.free_ok KX G (c.fact 2 (f := .free "len") rfl)
  have h_free_int := He.free_ok KX G (c.fact 4 (f := .free "int") rfl)
  refine ⟨fd, fn_okM (N := ["draws", "many"]) (ps := ["draws", "many"]) (fl := [true, false]) (mb := m__law_take (He.ga K "Lines")) F ⟨rfl, rfl, rfl, by decide +kernel, rfl, by decide +kernel, by decide +kernel⟩ rfl (fun _ _ _ _ _ _ us hl => match us, hl with | [_, _], _ => rfl) fun cdv A outer s H vs E hr => ?_⟩
  have tk : Takes (cxOf (L2.CX P w) P w K mg base ["draws", "many"] d__law_take.qual d__law_take.scope (He.fAd K ("_law_take", none)) cdv A outer s H E) (Wf E) := takes_of rfl rfl rfl rfl
  exact sm_cons (sm_if (tm_cmp (op_eqA hr.units) oeq (em_callB call_lenA olen (by rfl) h_free_len boot_len (am_cons (em_var (pv 0)) (am_nil))) (em_int) (nomark _)) (sm_one (sm_ret (em_int))) (sm_nil)) (sm_one (sm_ret (em_op op_mod omod (em_callTy call_intA oint (by rfl) h_free_int boot_int (am_cons (em_mut0 mt_pop mpop PySem.F.slot_list_pop PySem.F.type_list_pop (pv 0)) (am_nil))) (em_var (pv 1)))))
theorem ok__law_cell (c : He.SaysD fa fn K) (KX : K.In base) (G : base.Ns mainGlobals mg) : ∃ fd, OkF P w K mg base 1 (He.fAd K ("_law_cell", none)) ["script", "at"] [false, false] (F__law_cell (He.ga K "Lines")) fd := by
  obtain ⟨fd, F⟩ := c.def_ 19 (d := d__law_cell) rfl
  have h_free_len := He.free_ok KX G (c.fact 2 (f := .free "len") rfl)
  have h_free_int := He.free_ok KX G (c.fact 4 (f := .free "int") rfl)
  refine ⟨fd, fn_okM (N := ["script", "at"]) (ps := ["script", "at"]) (fl := [false, false]) (mb := m__law_cell (He.ga K "Lines")) F ⟨rfl, rfl, rfl, by decide +kernel, rfl, by decide +kernel, by decide +kernel⟩ rfl (fun _ _ _ _ _ _ us hl => match us, hl with | [_, _], _ => rfl) fun cdv A outer s H vs E hr => ?_⟩
  have tk : Takes (cxOf (L2.CX P w) P w K mg base ["script", "at"] d__law_cell.qual d__law_cell.scope (He.fAd K ("_law_cell", none)) cdv A outer s H E) (Wf E) := takes_of rfl rfl rfl rfl
  exact sm_cons (sm_if (tm_cmp (op_eqA hr.units) oeq (em_callB call_lenA olen (by rfl) h_free_len boot_len (am_cons (em_var (pv 0)) (am_nil))) (em_int) (nomark _)) (sm_one (sm_ret (em_int))) (sm_nil)) (sm_one (sm_ret (em_callTy call_intA oint (by rfl) h_free_int boot_int (am_cons (em_ix ix_seq oix (em_var (pv 0)) (em_op op_mod omod (em_callTy call_intA oint (by rfl) h_free_int boot_int (am_cons (em_var (pv 1)) (am_nil))) (em_callB call_lenA olen (by rfl) h_free_len boot_len (am_cons (em_var (pv 0)) (am_nil)))) (fun _ _ => rfl)) (am_nil)))))
theorem okr__law_same (c : He.SaysD fa fn K) (KX : K.In base) (G : base.Ns mainGlobals mg) (n : Nat) {fd : FuncData} (F : FunD K d__law_same.name d__law_same.qual d__law_same.params d__law_same.body d__law_same.scope [] [] (He.fAd K ("_law_same", none)) fd) (g_rec : OkF P w K mg base (n + 1) (He.fAd K ("_law_same", none)) ["actual", "due"] [false, false] (R__law_same (He.ga K "Lines") n) fd) : OkF P w K mg base (n + 1 + 1) (He.fAd K ("_law_same", none)) ["actual", "due"] [false, false] (R__law_same (He.ga K "Lines") (n + 1)) fd := by
  have h_free_bool := He.free_ok KX G (c.fact 25 (f := .free "bool") rfl)
  have h_free_isinstance := He.free_ok KX G (c.fact 26 (f := .free "isinstance") rfl)
  have h_free_int := He.free_ok KX G (c.fact 4 (f := .free "int") rfl)
  have h_free_str := He.free_ok KX G (c.fact 6 (f := .free "str") rfl)
  have h_free_len := He.free_ok KX G (c.fact 2 (f := .free "len") rfl)
  have h_free_tuple := He.free_ok KX G (c.fact 5 (f := .free "tuple") rfl)
  have h_free_range := He.free_ok KX G (c.fact 24 (f := .free "range") rfl)
  have h_glo__law_same := He.glo_ok KX G (c.fact 27 (f := .glo "_law_same") rfl)
  refine fn_okM (N := ["actual", "due", "k"]) (ps := ["actual", "due"]) (fl := [false, false]) (mb := m__law_same (He.ga K "Lines") (R__law_same (He.ga K "Lines") n)) F ⟨rfl, rfl, rfl, by decide +kernel, rfl, by decide +kernel, by decide +kernel⟩ rfl (fun _ _ _ _ _ _ us hl => match us, hl with | [_, _], _ => rfl) fun cdv A outer s H vs E hr => ?_
  have tk : Takes (cxOf (L2.CX P w) P w K mg base ["actual", "due", "k"] d__law_same.qual d__law_same.scope (He.fAd K ("_law_same", none)) cdv A outer s H E) (Wf E) := takes_of rfl rfl rfl rfl
  have hN : (["actual", "due", "k"] : List Str).Nodup := by decide +kernel
  have hpo := passes_of (X := cxOf (L2.CX P w) P w K mg base ["actual", "due", "k"] d__law_same.qual d__law_same.scope (He.fAd K ("_law_same", none)) cdv A outer s H E) rfl
  exact sm_cons (sm_if (tm_cmp op_isN oisN (em_var (pv 1)) (em_non) (nomark _)) (sm_one (sm_ret (em_cmp op_isN oisN (em_var (pv 0)) (em_non) (nomark _)))) (sm_nil)) (sm_cons (sm_if (tm_tru (em_callB call_isi oisi (by rfl) h_free_isinstance boot_isinstance (am_cons (em_var (pv 1)) (am_cons (em_ty rfl h_free_bool boot_bool) (am_nil))))) (sm_one (sm_ret (em_and (em_callB call_isi oisi (by rfl) h_free_isinstance boot_isinstance (am_cons (em_var (pv 0)) (am_cons (em_ty rfl h_free_bool boot_bool) (am_nil)))) (em_one (em_cmp (op_eqA hr.units) oeq (em_var (pv 0)) (em_var (pv 1)) (nomark _)))))) (sm_nil)) (sm_cons (sm_if (tm_tru (em_callB call_isi oisi (by rfl) h_free_isinstance boot_isinstance (am_cons (em_var (pv 1)) (am_cons (em_ty rfl h_free_int boot_int) (am_nil))))) (sm_one (sm_ret (em_and (em_callB call_isi oisi (by rfl) h_free_isinstance boot_isinstance (am_cons (em_var (pv 0)) (am_cons (em_ty rfl h_free_int boot_int) (am_nil)))) (em_and (em_not (em_callB call_isi oisi (by rfl) h_free_isinstance boot_isinstance (am_cons (em_var (pv 0)) (am_cons (em_ty rfl h_free_bool boot_bool) (am_nil))))) (em_one (em_cmp (op_eqA hr.units) oeq (em_var (pv 0)) (em_var (pv 1)) (nomark _))))))) (sm_nil)) (sm_cons (sm_if (tm_tru (em_callB call_isi oisi (by rfl) h_free_isinstance boot_isinstance (am_cons (em_var (pv 1)) (am_cons (em_ty rfl h_free_str boot_str) (am_nil))))) (sm_one (sm_ret (em_and (em_callB call_isi oisi (by rfl) h_free_isinstance boot_isinstance (am_cons (em_var (pv 0)) (am_cons (em_ty rfl h_free_str boot_str) (am_nil)))) (em_one (em_cmp (op_eqA hr.units) oeq (em_var (pv 0)) (em_var (pv 1)) (nomark _)))))) (sm_nil)) (sm_cons (sm_if (tm_w (wm_or (tm_not (tm_tru (em_callB call_isi oisi (by rfl) h_free_isinstance boot_isinstance (am_cons (em_var (pv 0)) (am_cons (em_ty rfl h_free_tuple boot_tuple) (am_nil)))))) (wm_or1 (tm_cmp (op_neA hr.units) one (em_callB call_lenA olen (by rfl) h_free_len boot_len (am_cons (em_var (pv 0)) (am_nil))) (em_callB call_lenA olen (by rfl) h_free_len boot_len (am_cons (em_var (pv 1)) (am_nil))) (nomark _))))) (sm_one (sm_ret (em_bl))) (sm_nil)) (sm_cons (sm_for hpo rfl (im_rng1 (by rfl) h_free_range (em_callB call_lenA olen (by rfl) h_free_len boot_len (am_cons (em_var (pv 1)) (am_nil)))) (gm_name hN rfl (by first | exact .inl rfl | exact .inr rfl) (pin_no rfl)) (sm_one (sm_if (tm_not (tm_tru (em_call g_rec.ok tk (hr.mono (by omega)) (by rfl) h_glo__law_same g_rec.kp g_rec.binds (am_cons (em_ix ix_seq oix (em_var (pv 0)) (em_var (pv 2)) (fun _ _ => rfl)) (am_cons (em_ix ix_seq oix (em_var (pv 1)) (em_var (pv 2)) (fun _ _ => rfl)) (am_nil)))))) (sm_one (sm_ret (em_bl))) (sm_nil)))) (sm_one (sm_ret (em_bl))))))))
theorem okn__law_same (c : He.SaysD fa fn K) (KX : K.In base) (G : base.Ns mainGlobals mg) {fd : FuncData} (F : FunD K d__law_same.name d__law_same.qual d__law_same.params d__law_same.body d__law_same.scope [] [] (He.fAd K ("_law_same", none)) fd) : ∀ n, OkF P w K mg base (n + 1) (He.fAd K ("_law_same", none)) ["actual", "due"] [false, false] (R__law_same (He.ga K "Lines") n) fd
  | 0 => ok_bad F (fun _ _ _ _ _ _ us hl => match us, hl with | [_, _], _ => rfl)
  | n + 1 => okr__law_same c KX G n F (okn__law_same c KX G F n)
theorem ok__law_same (c : He.SaysD fa fn K) (KX : K.In base) (G : base.Ns mainGlobals mg) : ∃ fd, OkF P w K mg base 8 (He.fAd K ("_law_same", none)) ["actual", "due"] [false, false] (F__law_same (He.ga K "Lines")) fd := by
  obtain ⟨fd, F⟩ := c.def_ 20 (d := d__law_same) rfl
  exact ⟨fd, okn__law_same c KX G F 7⟩
theorem ok__law_any_number (c : He.SaysD fa fn K) (KX : K.In base) (G : base.Ns mainGlobals mg) : ∃ fd, OkF P w K mg base 2 (He.fAd K ("_law_any_number", none)) ["script", "draws"] [false, true] (F__law_any_number (He.ga K "Lines")) fd := by
  obtain ⟨fd, F⟩ := c.def_ 21 (d := d__law_any_number) rfl
  obtain ⟨fd__law_take, g__law_take⟩ := ok__law_take (P := P) (w := w) c KX G
  obtain ⟨fd__law_cell, g__law_cell⟩ := ok__law_cell (P := P) (w := w) c KX G
  have h_glo__law_take := He.glo_ok KX G (c.fact 28 (f := .glo "_law_take") rfl)
  have h_glo__law_cell := He.glo_ok KX G (c.fact 29 (f := .glo "_law_cell") rfl)
  have h_free_int := He.free_ok KX G (c.fact 4 (f := .free "int") rfl)
  have h_free_abs := He.free_ok KX G (c.fact 30 (f := .free "abs") rfl)
  refine ⟨fd, fn_okM (N := ["script", "draws", "number", "cell"]) (ps := ["script", "draws"]) (fl := [false, true]) (mb := m__law_any_number (He.ga K "Lines")) F ⟨rfl, rfl, rfl, by decide +kernel, rfl, by decide +kernel, by decide +kernel⟩ rfl (fun _ _ _ _ _ _ us hl => match us, hl with | [_, _], _ => rfl) fun cdv A outer s H vs E hr => ?_⟩
  have tk : Takes (cxOf (L2.CX P w) P w K mg base ["script", "draws", "number", "cell"] d__law_any_number.qual d__law_any_number.scope (He.fAd K ("_law_any_number", none)) cdv A outer s H E) (Wf E) := takes_of rfl rfl rfl rfl
  have hN : (["script", "draws", "number", "cell"] : List Str).Nodup := by decide +kernel
  exact sm_cons (sm_set hN rfl (by first | exact .inl rfl | exact .inr rfl) (pin_no rfl) (em_op op_sub osub (em_call g__law_take.ok tk (hr.mono (by decide)) (by rfl) h_glo__law_take g__law_take.kp g__law_take.binds (am_cons (em_var (pv 1)) (am_cons (em_int) (am_nil)))) (em_int))) (sm_cons (sm_if (tm_cmp (op_eqA hr.units) oeq (em_call g__law_take.ok tk (hr.mono (by decide)) (by rfl) h_glo__law_take g__law_take.kp g__law_take.binds (am_cons (em_var (pv 1)) (am_cons (em_int) (am_nil)))) (em_int) (nomark _)) (sm_cons (sm_set hN rfl (by first | exact .inl rfl | exact .inr rfl) (pin_no rfl) (em_call g__law_cell.ok tk (hr.mono (by decide)) (by rfl) h_glo__law_cell g__law_cell.kp g__law_cell.binds (am_cons (em_var (pv 0)) (am_cons (em_var (pv 2)) (am_nil))))) (sm_cons (sm_set hN rfl (by first | exact .inl rfl | exact .inr rfl) (pin_no rfl) (em_op op_mulAll omulAll (em_ix ix_seq oix (em_lst (am_cons (em_int) (am_cons (em_neg (em_int)) (am_nil)))) (em_callTy call_intA oint (by rfl) h_free_int boot_int (am_cons (em_cmp op_lt olt (em_var (pv 3)) (em_int) (nomark _)) (am_nil))) (fun _ _ => rfl)) (em_callTy call_intA oint (by rfl) h_free_int boot_int (am_cons (em_op op_mod omod (em_callTy call_intA oint (by rfl) h_free_int boot_int (am_cons (em_callB call_abs oabs (by rfl) h_free_abs boot_abs (am_cons (em_var (pv 3)) (am_nil))) (am_nil))) (em_op op_pow opow (em_int) (em_int))) (am_nil))))) (sm_one (sm_if (tm_cmp (op_eqA hr.units) oeq (em_call g__law_take.ok tk (hr.mono (by decide)) (by rfl) h_glo__law_take g__law_take.kp g__law_take.binds (am_cons (em_var (pv 1)) (am_cons (em_int) (am_nil)))) (em_int) (nomark _)) (sm_one (sm_set hN rfl (by first | exact .inl rfl | exact .inr rfl) (pin_no rfl) (em_op op_mulAll omulAll (em_ix ix_seq oix (em_lst (am_cons (em_int) (am_cons (em_neg (em_int)) (am_nil)))) (em_call g__law_take.ok tk (hr.mono (by decide)) (by rfl) h_glo__law_take g__law_take.kp g__law_take.binds (am_cons (em_var (pv 1)) (am_cons (em_int) (am_nil)))) (fun _ _ => rfl)) (em_op op_addAll oaddAll (em_op op_pow opow (em_int) (em_int)) (em_op op_mod omod (em_callTy call_intA oint (by rfl) h_free_int boot_int (am_cons (em_callB call_abs oabs (by rfl) h_free_abs boot_abs (am_cons (em_var (pv 3)) (am_nil))) (am_nil))) (em_int)))))) (sm_nil))))) (sm_nil)) (sm_one (sm_ret (em_var (pv 2)))))
theorem ok__law_some_numbers (c : He.SaysD fa fn K) (KX : K.In base) (G : base.Ns mainGlobals mg) : ∃ fd, OkF P w K mg base 3 (He.fAd K ("_law_some_numbers", none)) ["script", "draws", "many"] [false, true, false] (F__law_some_numbers (He.ga K "Lines")) fd := by
  obtain ⟨fd, F⟩ := c.def_ 22 (d := d__law_some_numbers) rfl
  obtain ⟨fd__law_any_number, g__law_any_number⟩ := ok__law_any_number (P := P) (w := w) c KX G
  have h_free_range := He.free_ok KX G (c.fact 24 (f := .free "range") rfl)
  have h_glo__law_any_number := He.glo_ok KX G (c.fact 31 (f := .glo "_law_any_number") rfl)
  have h_free_tuple := He.free_ok KX G (c.fact 5 (f := .free "tuple") rfl)
  refine ⟨fd, fn_okM (N := ["script", "draws", "many", "k"]) (ps := ["script", "draws", "many"]) (fl := [false, true, false]) (mb := m__law_some_numbers (He.ga K "Lines")) F ⟨rfl, rfl, rfl, by decide +kernel, rfl, by decide +kernel, by decide +kernel⟩ rfl (fun _ _ _ _ _ _ us hl => match us, hl with | [_, _, _], _ => rfl) fun cdv A outer s H vs E hr => ?_⟩
  have tk : Takes (cxOf (L2.CX P w) P w K mg base ["script", "draws", "many", "k"] d__law_some_numbers.qual d__law_some_numbers.scope (He.fAd K ("_law_some_numbers", none)) cdv A outer s H E) (Wf E) := takes_of rfl rfl rfl rfl
  have hN : (["script", "draws", "many", "k"] : List Str).Nodup := by decide +kernel
  exact sm_one (sm_ret (em_callTy call_tuple_of otuple (by rfl) h_free_tuple boot_tuple (am_cons (em_lc rfl hN (im_rng1 (by rfl) h_free_range (em_var (pv 2))) (blkOk_by (own := [("k", 3)]) rfl) (fun _ _ _ _ _ => gm_name hN rfl (by first | exact .inl rfl | exact .inr rfl) rfl) (fun _ _ _ _ _ => tms_nil) (fun _ _ _ _ _ => em_call g__law_any_number.ok takes0 (hr.mono (by decide)) (by rfl) h_glo__law_any_number g__law_any_number.kp g__law_any_number.binds (am_cons (em_var (pv 0)) (am_cons (em_var (pv 1)) (am_nil)))) (by decide)) (am_nil))))
theorem ok__law_tuples (c : He.SaysD fa fn K) (KX : K.In base) (G : base.Ns mainGlobals mg) : ∃ fd, OkF P w K mg base 4 (He.fAd K ("_law_tuples", none)) ["script", "draws", "many"] [false, true, false] (F__law_tuples (He.ga K "Lines")) fd := by
  obtain ⟨fd, F⟩ := c.def_ 23 (d := d__law_tuples) rfl
  obtain ⟨fd__law_some_numbers, g__law_some_numbers⟩ := ok__law_some_numbers (P := P) (w := w) c KX G
  obtain ⟨fd__law_take, g__law_take⟩ := ok__law_take (P := P) (w := w) c KX G
  have h_free_range := He.free_ok KX G (c.fact 24 (f := .free "range") rfl)
  have h_glo__law_take := He.glo_ok KX G (c.fact 28 (f := .glo "_law_take") rfl)
  have h_glo__law_some_numbers := He.glo_ok KX G (c.fact 32 (f := .glo "_law_some_numbers") rfl)
  have h_free_tuple := He.free_ok KX G (c.fact 5 (f := .free "tuple") rfl)
  refine ⟨fd, fn_okM (N := ["script", "draws", "many", "k"]) (ps := ["script", "draws", "many"]) (fl := [false, true, false]) (mb := m__law_tuples (He.ga K "Lines")) F ⟨rfl, rfl, rfl, by decide +kernel, rfl, by decide +kernel, by decide +kernel⟩ rfl (fun _ _ _ _ _ _ us hl => match us, hl with | [_, _, _], _ => rfl) fun cdv A outer s H vs E hr => ?_⟩
  have tk : Takes (cxOf (L2.CX P w) P w K mg base ["script", "draws", "many", "k"] d__law_tuples.qual d__law_tuples.scope (He.fAd K ("_law_tuples", none)) cdv A outer s H E) (Wf E) := takes_of rfl rfl rfl rfl
  have hN : (["script", "draws", "many", "k"] : List Str).Nodup := by decide +kernel
  exact sm_one (sm_ret (em_callTy call_tuple_of otuple (by rfl) h_free_tuple boot_tuple (am_cons (em_lc rfl hN (im_rng1 (by rfl) h_free_range (em_var (pv 2))) (blkOk_by (own := [("k", 3)]) rfl) (fun _ _ _ _ _ => gm_name hN rfl (by first | exact .inl rfl | exact .inr rfl) rfl) (fun _ _ _ _ _ => tms_nil) (fun _ _ _ _ _ => em_call g__law_some_numbers.ok takes0 (hr.mono (by decide)) (by rfl) h_glo__law_some_numbers g__law_some_numbers.kp g__law_some_numbers.binds (am_cons (em_var (pv 0)) (am_cons (em_var (pv 1)) (am_cons (em_call g__law_take.ok takes0 (hr.mono (by decide)) (by rfl) h_glo__law_take g__law_take.kp g__law_take.binds (am_cons (em_var (pv 1)) (am_cons (em_int) (am_nil)))) (am_nil))))) (by decide)) (am_nil))))
theorem ok__law_any_locks (c : He.SaysD fa fn K) (KX : K.In base) (G : base.Ns mainGlobals mg) : ∃ fd, OkF P w K mg base 5 (He.fAd K ("_law_any_locks", none)) ["script", "draws", "many"] [false, true, false] (F__law_any_locks (He.ga K "Lines")) fd := by
  obtain ⟨fd, F⟩ := c.def_ 24 (d := d__law_any_locks) rfl
  obtain ⟨fd__law_tuples, g__law_tuples⟩ := ok__law_tuples (P := P) (w := w) c KX G
  obtain ⟨fd__law_take, g__law_take⟩ := ok__law_take (P := P) (w := w) c KX G
  have h_free_range := He.free_ok KX G (c.fact 24 (f := .free "range") rfl)
  have h_glo__law_take := He.glo_ok KX G (c.fact 28 (f := .glo "_law_take") rfl)
  have h_glo__law_tuples := He.glo_ok KX G (c.fact 33 (f := .glo "_law_tuples") rfl)
  have h_free_tuple := He.free_ok KX G (c.fact 5 (f := .free "tuple") rfl)
  refine ⟨fd, fn_okM (N := ["script", "draws", "many", "k"]) (ps := ["script", "draws", "many"]) (fl := [false, true, false]) (mb := m__law_any_locks (He.ga K "Lines")) F ⟨rfl, rfl, rfl, by decide +kernel, rfl, by decide +kernel, by decide +kernel⟩ rfl (fun _ _ _ _ _ _ us hl => match us, hl with | [_, _, _], _ => rfl) fun cdv A outer s H vs E hr => ?_⟩
  have tk : Takes (cxOf (L2.CX P w) P w K mg base ["script", "draws", "many", "k"] d__law_any_locks.qual d__law_any_locks.scope (He.fAd K ("_law_any_locks", none)) cdv A outer s H E) (Wf E) := takes_of rfl rfl rfl rfl
  have hN : (["script", "draws", "many", "k"] : List Str).Nodup := by decide +kernel
  exact sm_one (sm_ret (em_callTy call_tuple_of otuple (by rfl) h_free_tuple boot_tuple (am_cons (em_lc rfl hN (im_rng1 (by rfl) h_free_range (em_var (pv 2))) (blkOk_by (own := [("k", 3)]) rfl) (fun _ _ _ _ _ => gm_name hN rfl (by first | exact .inl rfl | exact .inr rfl) rfl) (fun _ _ _ _ _ => tms_nil) (fun _ _ _ _ _ => em_call g__law_tuples.ok takes0 (hr.mono (by decide)) (by rfl) h_glo__law_tuples g__law_tuples.kp g__law_tuples.binds (am_cons (em_var (pv 0)) (am_cons (em_var (pv 1)) (am_cons (em_call g__law_take.ok takes0 (hr.mono (by decide)) (by rfl) h_glo__law_take g__law_take.kp g__law_take.binds (am_cons (em_var (pv 1)) (am_cons (em_int) (am_nil)))) (am_nil))))) (by decide)) (am_nil))))
theorem ok__law_any_stands (c : He.SaysD fa fn K) (KX : K.In base) (G : base.Ns mainGlobals mg) : ∃ fd, OkF P w K mg base 5 (He.fAd K ("_law_any_stands", none)) ["script", "draws", "many"] [false, true, false] (F__law_any_stands (He.ga K "Lines")) fd := by
  obtain ⟨fd, F⟩ := c.def_ 25 (d := d__law_any_stands) rfl
  obtain ⟨fd__law_tuples, g__law_tuples⟩ := ok__law_tuples (P := P) (w := w) c KX G
  obtain ⟨fd__law_take, g__law_take⟩ := ok__law_take (P := P) (w := w) c KX G
  obtain ⟨fd__law_some_numbers, g__law_some_numbers⟩ := ok__law_some_numbers (P := P) (w := w) c KX G
  obtain ⟨fd__law_any_number, g__law_any_number⟩ := ok__law_any_number (P := P) (w := w) c KX G
  have h_free_range := He.free_ok KX G (c.fact 24 (f := .free "range") rfl)
  have h_glo__law_take := He.glo_ok KX G (c.fact 28 (f := .glo "_law_take") rfl)
  have h_glo__law_tuples := He.glo_ok KX G (c.fact 33 (f := .glo "_law_tuples") rfl)
  have h_glo__law_some_numbers := He.glo_ok KX G (c.fact 32 (f := .glo "_law_some_numbers") rfl)
  have h_glo__law_any_number := He.glo_ok KX G (c.fact 31 (f := .glo "_law_any_number") rfl)
  have h_free_tuple := He.free_ok KX G (c.fact 5 (f := .free "tuple") rfl)
  refine ⟨fd, fn_okM (N := ["script", "draws", "many", "found", "k", "hand", "some"]) (ps := ["script", "draws", "many"]) (fl := [false, true, false]) (mb := m__law_any_stands (He.ga K "Lines")) F ⟨rfl, rfl, rfl, by decide +kernel, rfl, by decide +kernel, by decide +kernel⟩ rfl (fun _ _ _ _ _ _ us hl => match us, hl with | [_, _, _], _ => rfl) fun cdv A outer s H vs E hr => ?_⟩
  have tk : Takes (cxOf (L2.CX P w) P w K mg base ["script", "draws", "many", "found", "k", "hand", "some"] d__law_any_stands.qual d__law_any_stands.scope (He.fAd K ("_law_any_stands", none)) cdv A outer s H E) (Wf E) := takes_of rfl rfl rfl rfl
  have hN : (["script", "draws", "many", "found", "k", "hand", "some"] : List Str).Nodup := by decide +kernel
  have hpo := passes_of (X := cxOf (L2.CX P w) P w K mg base ["script", "draws", "many", "found", "k", "hand", "some"] d__law_any_stands.qual d__law_any_stands.scope (He.fAd K ("_law_any_stands", none)) cdv A outer s H E) rfl
  exact sm_cons (sm_set hN rfl (by first | exact .inl rfl | exact .inr rfl) (pin_no rfl) (em_lst (am_nil))) (sm_cons (sm_for hpo rfl (im_rng1 (by rfl) h_free_range (em_var (pv 2))) (gm_name hN rfl (by first | exact .inl rfl | exact .inr rfl) (pin_no rfl)) (sm_cons (sm_set hN rfl (by first | exact .inl rfl | exact .inr rfl) (pin_no rfl) (em_call g__law_tuples.ok tk (hr.mono (by decide)) (by rfl) h_glo__law_tuples g__law_tuples.kp g__law_tuples.binds (am_cons (em_var (pv 0)) (am_cons (em_var (pv 1)) (am_cons (em_call g__law_take.ok tk (hr.mono (by decide)) (by rfl) h_glo__law_take g__law_take.kp g__law_take.binds (am_cons (em_var (pv 1)) (am_cons (em_int) (am_nil)))) (am_nil)))))) (sm_cons (sm_set hN rfl (by first | exact .inl rfl | exact .inr rfl) (pin_no rfl) (em_call g__law_some_numbers.ok tk (hr.mono (by decide)) (by rfl) h_glo__law_some_numbers g__law_some_numbers.kp g__law_some_numbers.binds (am_cons (em_var (pv 0)) (am_cons (em_var (pv 1)) (am_cons (em_call g__law_take.ok tk (hr.mono (by decide)) (by rfl) h_glo__law_take g__law_take.kp g__law_take.binds (am_cons (em_var (pv 1)) (am_cons (em_int) (am_nil)))) (am_nil)))))) (sm_one (sm_expr (em_mut mt_append mapp PySem.F.slot_list_append PySem.F.type_list_append (pv 3) (am_cons (em_tup (am_cons (em_var (pv 5)) (am_cons (em_var (pv 6)) (am_cons (em_call g__law_any_number.ok tk (hr.mono (by decide)) (by rfl) h_glo__law_any_number g__law_any_number.kp g__law_any_number.binds (am_cons (em_var (pv 0)) (am_cons (em_var (pv 1)) (am_nil)))) (am_nil))))) (am_nil)))))))) (sm_one (sm_ret (em_callTy call_tuple_of otuple (by rfl) h_free_tuple boot_tuple (am_cons (em_var (pv 3)) (am_nil))))))
theorem ok__law_text_line (c : He.SaysD fa fn K) (KX : K.In base) (G : base.Ns mainGlobals mg) : ∃ fd, OkF P w K mg base 1 (He.fAd K ("_law_text_line", none)) ["word", "numbers"] [false, false] (F__law_text_line (He.ga K "Lines")) fd := by
  obtain ⟨fd, F⟩ := c.def_ 26 (d := d__law_text_line) rfl
  have h_free_str := He.free_ok KX G (c.fact 6 (f := .free "str") rfl)
  refine ⟨fd, fn_okM (N := ["word", "numbers", "number"]) (ps := ["word", "numbers"]) (fl := [false, false]) (mb := m__law_text_line (He.ga K "Lines")) F ⟨rfl, rfl, rfl, by decide +kernel, rfl, by decide +kernel, by decide +kernel⟩ rfl (fun _ _ _ _ _ _ us hl => match us, hl with | [_, _], _ => rfl) fun cdv A outer s H vs E hr => ?_⟩
  have tk : Takes (cxOf (L2.CX P w) P w K mg base ["word", "numbers", "number"] d__law_text_line.qual d__law_text_line.scope (He.fAd K ("_law_text_line", none)) cdv A outer s H E) (Wf E) := takes_of rfl rfl rfl rfl
  have hN : (["word", "numbers", "number"] : List Str).Nodup := by decide +kernel
  exact sm_one (sm_ret (em_join (em_str (l := [32])) (em_op op_addAll oaddAll (em_lst (am_cons (em_var (pv 0)) (am_nil))) (em_lc rfl hN (im_seq (em_var (pv 1))) (blkOk_by (own := [("number", 2)]) rfl) (fun _ _ _ _ _ => gm_name hN rfl (by first | exact .inl rfl | exact .inr rfl) rfl) (fun _ _ _ _ _ => tms_nil) (fun _ _ _ _ _ => em_callTy call_str_int ostr (by rfl) h_free_str boot_str (am_cons (em_var (pv 2)) (am_nil))) (by decide)))))
theorem ok__law_lock_lines (c : He.SaysD fa fn K) (KX : K.In base) (G : base.Ns mainGlobals mg) : ∃ fd, OkF P w K mg base 2 (He.fAd K ("_law_lock_lines", none)) ["locks"] [false] (F__law_lock_lines (He.ga K "Lines")) fd := by
  obtain ⟨fd, F⟩ := c.def_ 27 (d := d__law_lock_lines) rfl
  obtain ⟨fd__law_text_line, g__law_text_line⟩ := ok__law_text_line (P := P) (w := w) c KX G
  have h_glo__law_text_line := He.glo_ok KX G (c.fact 34 (f := .glo "_law_text_line") rfl)
  refine ⟨fd, fn_okM (N := ["locks", "found", "lock", "cuts"]) (ps := ["locks"]) (fl := [false]) (mb := m__law_lock_lines (He.ga K "Lines")) F ⟨rfl, rfl, rfl, by decide +kernel, rfl, by decide +kernel, by decide +kernel⟩ rfl (fun _ _ _ _ _ _ us hl => match us, hl with | [_], _ => rfl) fun cdv A outer s H vs E hr => ?_⟩
  have tk : Takes (cxOf (L2.CX P w) P w K mg base ["locks", "found", "lock", "cuts"] d__law_lock_lines.qual d__law_lock_lines.scope (He.fAd K ("_law_lock_lines", none)) cdv A outer s H E) (Wf E) := takes_of rfl rfl rfl rfl
  have hN : (["locks", "found", "lock", "cuts"] : List Str).Nodup := by decide +kernel
  have hpo := passes_of (X := cxOf (L2.CX P w) P w K mg base ["locks", "found", "lock", "cuts"] d__law_lock_lines.qual d__law_lock_lines.scope (He.fAd K ("_law_lock_lines", none)) cdv A outer s H E) rfl
  exact sm_cons (sm_set hN rfl (by first | exact .inl rfl | exact .inr rfl) (pin_no rfl) (em_frz (em_lst (am_nil)))) (sm_cons (sm_for hpo rfl (im_seq (em_var (pv 0))) (gm_name hN rfl (by first | exact .inl rfl | exact .inr rfl) (pin_no rfl)) (sm_one (sm_set hN rfl (by first | exact .inl rfl | exact .inr rfl) (pin_no rfl) (em_frz (em_op op_addAll oaddAll (em_op op_addAll oaddAll (em_var (pv 1)) (em_lst (am_cons (em_str (l := [108, 111, 99, 107])) (am_nil)))) (em_lc rfl hN (im_seq (em_var (pv 2))) (blkOk_by (own := [("cuts", 3)]) rfl) (fun _ _ _ _ _ => gm_name hN rfl (by first | exact .inl rfl | exact .inr rfl) rfl) (fun _ _ _ _ _ => tms_nil) (fun _ _ _ _ _ => em_call g__law_text_line.ok takes0 (hr.mono (by decide)) (by rfl) h_glo__law_text_line g__law_text_line.kp g__law_text_line.binds (am_cons (em_str (l := [99, 104, 97, 109, 98, 101, 114])) (am_cons (em_var (pv 3)) (am_nil)))) (by decide))))))) (sm_one (sm_ret (em_var (pv 1)))))
theorem ok__law_house_lines (c : He.SaysD fa fn K) (KX : K.In base) (G : base.Ns mainGlobals mg) : ∃ fd, OkF P w K mg base 3 (He.fAd K ("_law_house_lines", none)) ["house"] [false] (F__law_house_lines (He.ga K "Lines")) fd := by
  obtain ⟨fd, F⟩ := c.def_ 28 (d := d__law_house_lines) rfl
  obtain ⟨fd__law_text_line, g__law_text_line⟩ := ok__law_text_line (P := P) (w := w) c KX G
  obtain ⟨fd__law_lock_lines, g__law_lock_lines⟩ := ok__law_lock_lines (P := P) (w := w) c KX G
  have h_glo__law_text_line := He.glo_ok KX G (c.fact 34 (f := .glo "_law_text_line") rfl)
  have h_glo__law_lock_lines := He.glo_ok KX G (c.fact 35 (f := .glo "_law_lock_lines") rfl)
  refine ⟨fd, fn_okM (N := ["house", "found", "pinning", "key"]) (ps := ["house"]) (fl := [false]) (mb := m__law_house_lines (He.ga K "Lines")) F ⟨rfl, rfl, rfl, by decide +kernel, rfl, by decide +kernel, by decide +kernel⟩ rfl (fun _ _ _ _ _ _ us hl => match us, hl with | [_], _ => rfl) fun cdv A outer s H vs E hr => ?_⟩
  have tk : Takes (cxOf (L2.CX P w) P w K mg base ["house", "found", "pinning", "key"] d__law_house_lines.qual d__law_house_lines.scope (He.fAd K ("_law_house_lines", none)) cdv A outer s H E) (Wf E) := takes_of rfl rfl rfl rfl
  have hN : (["house", "found", "pinning", "key"] : List Str).Nodup := by decide +kernel
  have hpo := passes_of (X := cxOf (L2.CX P w) P w K mg base ["house", "found", "pinning", "key"] d__law_house_lines.qual d__law_house_lines.scope (He.fAd K ("_law_house_lines", none)) cdv A outer s H E) rfl
  exact sm_cons (sm_set hN rfl (by first | exact .inl rfl | exact .inr rfl) (pin_no rfl) (em_frz (em_op op_addAll oaddAll (em_lst (am_cons (em_call g__law_text_line.ok tk (hr.mono (by decide)) (by rfl) h_glo__law_text_line g__law_text_line.kp g__law_text_line.binds (am_cons (em_str (l := [108, 105, 110, 101])) (am_cons (em_ix ix_seq oix (em_var (pv 0)) (em_int) (fun _ _ => rfl)) (am_nil)))) (am_nil))) (em_lc rfl hN (im_seq (em_ix ix_seq oix (em_var (pv 0)) (em_int) (fun _ _ => rfl))) (blkOk_by (own := [("key", 3)]) rfl) (fun _ _ _ _ _ => gm_name hN rfl (by first | exact .inl rfl | exact .inr rfl) rfl) (fun _ _ _ _ _ => tms_nil) (fun _ _ _ _ _ => em_call g__law_text_line.ok takes0 (hr.mono (by decide)) (by rfl) h_glo__law_text_line g__law_text_line.kp g__law_text_line.binds (am_cons (em_str (l := [107, 101, 121])) (am_cons (em_var (pv 3)) (am_nil)))) (by decide))))) (sm_cons (sm_for hpo rfl (im_seq (em_ix ix_seq oix (em_var (pv 0)) (em_int) (fun _ _ => rfl))) (gm_name hN rfl (by first | exact .inl rfl | exact .inr rfl) (pin_no rfl)) (sm_one (sm_set hN rfl (by first | exact .inl rfl | exact .inr rfl) (pin_no rfl) (em_frz (em_op op_addAll oaddAll (em_op op_addAll oaddAll (em_var (pv 1)) (em_lst (am_cons (em_str (l := [112, 105, 110, 110, 105, 110, 103])) (am_nil)))) (em_call g__law_lock_lines.ok tk (hr.mono (by decide)) (by rfl) h_glo__law_lock_lines g__law_lock_lines.kp g__law_lock_lines.binds (am_cons (em_var (pv 2)) (am_nil)))))))) (sm_one (sm_ret (em_op op_addAll oaddAll (em_var (pv 1)) (em_lst (am_cons (em_call g__law_text_line.ok tk (hr.mono (by decide)) (by rfl) h_glo__law_text_line g__law_text_line.kp g__law_text_line.binds (am_cons (em_str (l := [112, 108, 97, 99, 101, 115])) (am_cons (em_ix ix_seq oix (em_var (pv 0)) (em_int) (fun _ _ => rfl)) (am_nil)))) (am_cons (em_call g__law_text_line.ok tk (hr.mono (by decide)) (by rfl) h_glo__law_text_line g__law_text_line.kp g__law_text_line.binds (am_cons (em_str (l := [116, 114, 105, 101, 115])) (am_cons (em_tup (am_cons (em_ix ix_seq oix (em_var (pv 0)) (em_int) (fun _ _ => rfl)) (am_nil))) (am_nil)))) (am_nil))))))))
theorem ok__law_stand_lines (c : He.SaysD fa fn K) (KX : K.In base) (G : base.Ns mainGlobals mg) : ∃ fd, OkF P w K mg base 2 (He.fAd K ("_law_stand_lines", none)) ["stand"] [false] (F__law_stand_lines (He.ga K "Lines")) fd := by
  obtain ⟨fd, F⟩ := c.def_ 29 (d := d__law_stand_lines) rfl
  obtain ⟨fd__law_text_line, g__law_text_line⟩ := ok__law_text_line (P := P) (w := w) c KX G
  have h_glo__law_text_line := He.glo_ok KX G (c.fact 34 (f := .glo "_law_text_line") rfl)
  refine ⟨fd, fn_okM (N := ["stand", "found", "key"]) (ps := ["stand"]) (fl := [false]) (mb := m__law_stand_lines (He.ga K "Lines")) F ⟨rfl, rfl, rfl, by decide +kernel, rfl, by decide +kernel, by decide +kernel⟩ rfl (fun _ _ _ _ _ _ us hl => match us, hl with | [_], _ => rfl) fun cdv A outer s H vs E hr => ?_⟩
  have tk : Takes (cxOf (L2.CX P w) P w K mg base ["stand", "found", "key"] d__law_stand_lines.qual d__law_stand_lines.scope (He.fAd K ("_law_stand_lines", none)) cdv A outer s H E) (Wf E) := takes_of rfl rfl rfl rfl
  have hN : (["stand", "found", "key"] : List Str).Nodup := by decide +kernel
  exact sm_cons (sm_setLc rfl hN rfl rfl (by rfl) (pin_no rfl) (im_seq (em_ix ix_seq oix (em_var (pv 0)) (em_int) (fun _ _ => rfl))) (blkOk_by (own := [("key", 2)]) rfl) (fun _ _ _ _ _ => gm_name hN rfl (by first | exact .inl rfl | exact .inr rfl) rfl) (fun _ _ _ _ _ => tms_nil) (fun _ _ _ _ _ => em_call g__law_text_line.ok takes0 (hr.mono (by decide)) (by rfl) h_glo__law_text_line g__law_text_line.kp g__law_text_line.binds (am_cons (em_str (l := [107, 101, 121])) (am_cons (em_var (pv 2)) (am_nil)))) (by decide)) (sm_one (sm_ret (em_op op_addAll oaddAll (em_var (pv 1)) (em_lst (am_cons (em_call g__law_text_line.ok tk (hr.mono (by decide)) (by rfl) h_glo__law_text_line g__law_text_line.kp g__law_text_line.binds (am_cons (em_str (l := [112, 105, 110, 110, 105, 110, 103, 115])) (am_cons (em_ix ix_seq oix (em_var (pv 0)) (em_int) (fun _ _ => rfl)) (am_nil)))) (am_cons (em_call g__law_text_line.ok tk (hr.mono (by decide)) (by rfl) h_glo__law_text_line g__law_text_line.kp g__law_text_line.binds (am_cons (em_str (l := [116, 114, 105, 101, 115])) (am_cons (em_tup (am_cons (em_ix ix_seq oix (em_var (pv 0)) (em_int) (fun _ _ => rfl)) (am_nil))) (am_nil)))) (am_nil)))))))
theorem ok__law_joined (c : He.SaysD fa fn K) (KX : K.In base) (G : base.Ns mainGlobals mg) : ∃ fd, OkF P w K mg base 1 (He.fAd K ("_law_joined", none)) ["lines"] [false] (F__law_joined (He.ga K "Lines")) fd := by
  obtain ⟨fd, F⟩ := c.def_ 30 (d := d__law_joined) rfl
  refine ⟨fd, fn_okM (N := ["lines", "one"]) (ps := ["lines"]) (fl := [false]) (mb := m__law_joined (He.ga K "Lines")) F ⟨rfl, rfl, rfl, by decide +kernel, rfl, by decide +kernel, by decide +kernel⟩ rfl (fun _ _ _ _ _ _ us hl => match us, hl with | [_], _ => rfl) fun cdv A outer s H vs E hr => ?_⟩
  have tk : Takes (cxOf (L2.CX P w) P w K mg base ["lines", "one"] d__law_joined.qual d__law_joined.scope (He.fAd K ("_law_joined", none)) cdv A outer s H E) (Wf E) := takes_of rfl rfl rfl rfl
  have hN : (["lines", "one"] : List Str).Nodup := by decide +kernel
  exact sm_one (sm_ret (em_join (em_str (l := [])) (em_lc rfl hN (im_seq (em_var (pv 0))) (blkOk_by (own := [("one", 1)]) rfl) (fun _ _ _ _ _ => gm_name hN rfl (by first | exact .inl rfl | exact .inr rfl) rfl) (fun _ _ _ _ _ => tms_nil) (fun _ _ _ _ _ => em_op op_addAll oaddAll (em_var (pv 1)) (em_str (l := [10]))) (by decide))))
theorem ok__law_two_value (c : He.SaysD fa fn K) (KX : K.In base) (G : base.Ns mainGlobals mg) : ∃ fd, OkF P w K mg base 6 (He.fAd K ("_law_two_value", none)) ["script", "draws", "kind"] [false, true, false] (F__law_two_value (He.ga K "Lines")) fd := by
  obtain ⟨fd, F⟩ := c.def_ 31 (d := d__law_two_value) rfl
  obtain ⟨fd__law_any_stands, g__law_any_stands⟩ := ok__law_any_stands (P := P) (w := w) c KX G
  obtain ⟨fd__law_tuples, g__law_tuples⟩ := ok__law_tuples (P := P) (w := w) c KX G
  obtain ⟨fd__law_take, g__law_take⟩ := ok__law_take (P := P) (w := w) c KX G
  obtain ⟨fd__law_any_locks, g__law_any_locks⟩ := ok__law_any_locks (P := P) (w := w) c KX G
  obtain ⟨fd__law_some_numbers, g__law_some_numbers⟩ := ok__law_some_numbers (P := P) (w := w) c KX G
  obtain ⟨fd__law_any_number, g__law_any_number⟩ := ok__law_any_number (P := P) (w := w) c KX G
  have h_glo__law_any_stands := He.glo_ok KX G (c.fact 36 (f := .glo "_law_any_stands") rfl)
  have h_glo__law_take := He.glo_ok KX G (c.fact 28 (f := .glo "_law_take") rfl)
  have h_glo__law_tuples := He.glo_ok KX G (c.fact 33 (f := .glo "_law_tuples") rfl)
  have h_free_range := He.free_ok KX G (c.fact 24 (f := .free "range") rfl)
  have h_glo__law_any_locks := He.glo_ok KX G (c.fact 37 (f := .glo "_law_any_locks") rfl)
  have h_free_tuple := He.free_ok KX G (c.fact 5 (f := .free "tuple") rfl)
  have h_glo__law_some_numbers := He.glo_ok KX G (c.fact 32 (f := .glo "_law_some_numbers") rfl)
  have h_glo__law_any_number := He.glo_ok KX G (c.fact 31 (f := .glo "_law_any_number") rfl)
  refine ⟨fd, fn_okM (N := ["script", "draws", "kind", "keys", "pinnings", "places", "k"]) (ps := ["script", "draws", "kind"]) (fl := [false, true, false]) (mb := m__law_two_value (He.ga K "Lines")) F ⟨rfl, rfl, rfl, by decide +kernel, rfl, by decide +kernel, by decide +kernel⟩ rfl (fun _ _ _ _ _ _ us hl => match us, hl with | [_, _, _], _ => rfl) fun cdv A outer s H vs E hr => ?_⟩
  have tk : Takes (cxOf (L2.CX P w) P w K mg base ["script", "draws", "kind", "keys", "pinnings", "places", "k"] d__law_two_value.qual d__law_two_value.scope (He.fAd K ("_law_two_value", none)) cdv A outer s H E) (Wf E) := takes_of rfl rfl rfl rfl
  have hN : (["script", "draws", "kind", "keys", "pinnings", "places", "k"] : List Str).Nodup := by decide +kernel
  exact sm_cons (sm_if (tm_cmp (op_eqA hr.units) oeq (em_var (pv 2)) (em_int) (nomark _)) (sm_one (sm_ret (em_ix ix_seq oix (em_call g__law_any_stands.ok tk (hr.mono (by decide)) (by rfl) h_glo__law_any_stands g__law_any_stands.kp g__law_any_stands.binds (am_cons (em_var (pv 0)) (am_cons (em_var (pv 1)) (am_cons (em_int) (am_nil))))) (em_int) (fun _ _ => rfl)))) (sm_nil)) (sm_cons (sm_set hN rfl (by first | exact .inl rfl | exact .inr rfl) (pin_no rfl) (em_call g__law_tuples.ok tk (hr.mono (by decide)) (by rfl) h_glo__law_tuples g__law_tuples.kp g__law_tuples.binds (am_cons (em_var (pv 0)) (am_cons (em_var (pv 1)) (am_cons (em_call g__law_take.ok tk (hr.mono (by decide)) (by rfl) h_glo__law_take g__law_take.kp g__law_take.binds (am_cons (em_var (pv 1)) (am_cons (em_int) (am_nil)))) (am_nil)))))) (sm_cons (sm_set hN rfl (by first | exact .inl rfl | exact .inr rfl) (pin_no rfl) (em_callTy call_tuple_of otuple (by rfl) h_free_tuple boot_tuple (am_cons (em_lc rfl hN (im_rng1 (by rfl) h_free_range (em_call g__law_take.ok tk (hr.mono (by decide)) (by rfl) h_glo__law_take g__law_take.kp g__law_take.binds (am_cons (em_var (pv 1)) (am_cons (em_int) (am_nil))))) (blkOk_by (own := [("k", 6)]) rfl) (fun _ _ _ _ _ => gm_name hN rfl (by first | exact .inl rfl | exact .inr rfl) rfl) (fun _ _ _ _ _ => tms_nil) (fun _ _ _ _ _ => em_call g__law_any_locks.ok takes0 (hr.mono (by decide)) (by rfl) h_glo__law_any_locks g__law_any_locks.kp g__law_any_locks.binds (am_cons (em_var (pv 0)) (am_cons (em_var (pv 1)) (am_cons (em_call g__law_take.ok takes0 (hr.mono (by decide)) (by rfl) h_glo__law_take g__law_take.kp g__law_take.binds (am_cons (em_var (pv 1)) (am_cons (em_int) (am_nil)))) (am_nil))))) (by decide)) (am_nil)))) (sm_cons (sm_set hN rfl (by first | exact .inl rfl | exact .inr rfl) (pin_no rfl) (em_call g__law_some_numbers.ok tk (hr.mono (by decide)) (by rfl) h_glo__law_some_numbers g__law_some_numbers.kp g__law_some_numbers.binds (am_cons (em_var (pv 0)) (am_cons (em_var (pv 1)) (am_cons (em_call g__law_take.ok tk (hr.mono (by decide)) (by rfl) h_glo__law_take g__law_take.kp g__law_take.binds (am_cons (em_var (pv 1)) (am_cons (em_int) (am_nil)))) (am_nil)))))) (sm_one (sm_ret (em_tup (am_cons (em_call g__law_some_numbers.ok tk (hr.mono (by decide)) (by rfl) h_glo__law_some_numbers g__law_some_numbers.kp g__law_some_numbers.binds (am_cons (em_var (pv 0)) (am_cons (em_var (pv 1)) (am_cons (em_int) (am_nil))))) (am_cons (em_var (pv 3)) (am_cons (em_var (pv 4)) (am_cons (em_var (pv 5)) (am_cons (em_call g__law_any_number.ok tk (hr.mono (by decide)) (by rfl) h_glo__law_any_number g__law_any_number.kp g__law_any_number.binds (am_cons (em_var (pv 0)) (am_cons (em_var (pv 1)) (am_nil)))) (am_nil))))))))))))
theorem ok__law_two_lines (c : He.SaysD fa fn K) (KX : K.In base) (G : base.Ns mainGlobals mg) : ∃ fd, OkF P w K mg base 4 (He.fAd K ("_law_two_lines", none)) ["kind", "value"] [false, false] (F__law_two_lines (He.ga K "Lines")) fd := by
  obtain ⟨fd, F⟩ := c.def_ 32 (d := d__law_two_lines) rfl
  obtain ⟨fd__law_house_lines, g__law_house_lines⟩ := ok__law_house_lines (P := P) (w := w) c KX G
  obtain ⟨fd__law_stand_lines, g__law_stand_lines⟩ := ok__law_stand_lines (P := P) (w := w) c KX G
  have h_glo__law_house_lines := He.glo_ok KX G (c.fact 38 (f := .glo "_law_house_lines") rfl)
  have h_glo__law_stand_lines := He.glo_ok KX G (c.fact 39 (f := .glo "_law_stand_lines") rfl)
  refine ⟨fd, fn_okM (N := ["kind", "value"]) (ps := ["kind", "value"]) (fl := [false, false]) (mb := m__law_two_lines (He.ga K "Lines")) F ⟨rfl, rfl, rfl, by decide +kernel, rfl, by decide +kernel, by decide +kernel⟩ rfl (fun _ _ _ _ _ _ us hl => match us, hl with | [_, _], _ => rfl) fun cdv A outer s H vs E hr => ?_⟩
  have tk : Takes (cxOf (L2.CX P w) P w K mg base ["kind", "value"] d__law_two_lines.qual d__law_two_lines.scope (He.fAd K ("_law_two_lines", none)) cdv A outer s H E) (Wf E) := takes_of rfl rfl rfl rfl
  exact sm_cons (sm_if (tm_cmp (op_eqA hr.units) oeq (em_var (pv 0)) (em_int) (nomark _)) (sm_one (sm_ret (em_call g__law_house_lines.ok tk (hr.mono (by decide)) (by rfl) h_glo__law_house_lines g__law_house_lines.kp g__law_house_lines.binds (am_cons (em_var (pv 1)) (am_nil))))) (sm_nil)) (sm_one (sm_ret (em_call g__law_stand_lines.ok tk (hr.mono (by decide)) (by rfl) h_glo__law_stand_lines g__law_stand_lines.kp g__law_stand_lines.binds (am_cons (em_var (pv 1)) (am_nil)))))
theorem ok__law_written (c : He.SaysD fa fn K) (KX : K.In base) (G : base.Ns mainGlobals mg) : ∃ fd, OkF P w K mg base 4 (He.fAd K ("_law_written", none)) ["kind", "value"] [false, false] (F__law_written (He.ga K "Lines")) fd := by
  obtain ⟨fd, F⟩ := c.def_ 33 (d := d__law_written) rfl
  obtain ⟨fd_write_house, g_write_house⟩ := ok_write_house (P := P) (w := w) c KX G
  obtain ⟨fd_write_stand, g_write_stand⟩ := ok_write_stand (P := P) (w := w) c KX G
  have h_glo_write_house := He.glo_ok KX G (c.fact 40 (f := .glo "write_house") rfl)
  have h_glo_write_stand := He.glo_ok KX G (c.fact 41 (f := .glo "write_stand") rfl)
  refine ⟨fd, fn_okM (N := ["kind", "value"]) (ps := ["kind", "value"]) (fl := [false, false]) (mb := m__law_written (He.ga K "Lines")) F ⟨rfl, rfl, rfl, by decide +kernel, rfl, by decide +kernel, by decide +kernel⟩ rfl (fun _ _ _ _ _ _ us hl => match us, hl with | [_, _], _ => rfl) fun cdv A outer s H vs E hr => ?_⟩
  have tk : Takes (cxOf (L2.CX P w) P w K mg base ["kind", "value"] d__law_written.qual d__law_written.scope (He.fAd K ("_law_written", none)) cdv A outer s H E) (Wf E) := takes_of rfl rfl rfl rfl
  exact sm_cons (sm_if (tm_cmp (op_eqA hr.units) oeq (em_var (pv 0)) (em_int) (nomark _)) (sm_one (sm_ret (em_call g_write_house.ok tk (hr.mono (by decide)) (by rfl) h_glo_write_house g_write_house.kp g_write_house.binds (am_cons (em_var (pv 1)) (am_nil))))) (sm_nil)) (sm_one (sm_ret (em_call g_write_stand.ok tk (hr.mono (by decide)) (by rfl) h_glo_write_stand g_write_stand.kp g_write_stand.binds (am_cons (em_var (pv 1)) (am_nil)))))
theorem ok__law_told (c : He.SaysD fa fn K) (KX : K.In base) (G : base.Ns mainGlobals mg) : ∃ fd, OkF P w K mg base 8 (He.fAd K ("_law_told", none)) ["kind", "text"] [false, false] (F__law_told (He.ga K "Lines")) fd := by
  obtain ⟨fd, F⟩ := c.def_ 34 (d := d__law_told) rfl
  obtain ⟨fd_read_house, g_read_house⟩ := ok_read_house (P := P) (w := w) c KX G
  obtain ⟨fd_read_stand, g_read_stand⟩ := ok_read_stand (P := P) (w := w) c KX G
  have h_glo_read_house := He.glo_ok KX G (c.fact 42 (f := .glo "read_house") rfl)
  have h_glo_read_stand := He.glo_ok KX G (c.fact 43 (f := .glo "read_stand") rfl)
  refine ⟨fd, fn_okM (N := ["kind", "text"]) (ps := ["kind", "text"]) (fl := [false, false]) (mb := m__law_told (He.ga K "Lines")) F ⟨rfl, rfl, rfl, by decide +kernel, rfl, by decide +kernel, by decide +kernel⟩ rfl (fun _ _ _ _ _ _ us hl => match us, hl with | [_, _], _ => rfl) fun cdv A outer s H vs E hr => ?_⟩
  have tk : Takes (cxOf (L2.CX P w) P w K mg base ["kind", "text"] d__law_told.qual d__law_told.scope (He.fAd K ("_law_told", none)) cdv A outer s H E) (Wf E) := takes_of rfl rfl rfl rfl
  exact sm_cons (sm_if (tm_cmp (op_eqA hr.units) oeq (em_var (pv 0)) (em_int) (nomark _)) (sm_one (sm_ret (em_call g_read_house.ok tk (hr.mono (by decide)) (by rfl) h_glo_read_house g_read_house.kp g_read_house.binds (am_cons (em_var (pv 1)) (am_nil))))) (sm_nil)) (sm_one (sm_ret (em_call g_read_stand.ok tk (hr.mono (by decide)) (by rfl) h_glo_read_stand g_read_stand.kp g_read_stand.binds (am_cons (em_var (pv 1)) (am_nil)))))
theorem ok__law_large (c : He.SaysD fa fn K) (KX : K.In base) (G : base.Ns mainGlobals mg) : ∃ fd, OkF P w K mg base 1 (He.fAd K ("_law_large", none)) ["value", "kind", "many"] [false, false, false] (F__law_large (He.ga K "Lines")) fd := by
  obtain ⟨fd, F⟩ := c.def_ 35 (d := d__law_large) rfl
  refine ⟨fd, fn_okM (N := ["value", "kind", "many"]) (ps := ["value", "kind", "many"]) (fl := [false, false, false]) (mb := m__law_large (He.ga K "Lines")) F ⟨rfl, rfl, rfl, by decide +kernel, rfl, by decide +kernel, by decide +kernel⟩ rfl (fun _ _ _ _ _ _ us hl => match us, hl with | [_, _, _], _ => rfl) fun cdv A outer s H vs E hr => ?_⟩
  have tk : Takes (cxOf (L2.CX P w) P w K mg base ["value", "kind", "many"] d__law_large.qual d__law_large.scope (He.fAd K ("_law_large", none)) cdv A outer s H E) (Wf E) := takes_of rfl rfl rfl rfl
  exact sm_cons (sm_if (tm_cmp (op_eqA hr.units) oeq (em_var (pv 1)) (em_int) (nomark _)) (sm_one (sm_ret (em_tup (am_cons (em_op op_mulAll omulAll (em_ix ix_seq oix (em_var (pv 0)) (em_int) (fun _ _ => rfl)) (em_var (pv 2))) (am_cons (em_op op_mulAll omulAll (em_ix ix_seq oix (em_var (pv 0)) (em_int) (fun _ _ => rfl)) (em_var (pv 2))) (am_cons (em_ix ix_seq oix (em_var (pv 0)) (em_int) (fun _ _ => rfl)) (am_nil))))))) (sm_nil)) (sm_one (sm_ret (em_tup (am_cons (em_ix ix_seq oix (em_var (pv 0)) (em_int) (fun _ _ => rfl)) (am_cons (em_op op_mulAll omulAll (em_ix ix_seq oix (em_var (pv 0)) (em_int) (fun _ _ => rfl)) (em_var (pv 2))) (am_cons (em_op op_mulAll omulAll (em_ix ix_seq oix (em_var (pv 0)) (em_int) (fun _ _ => rfl)) (em_op op_fdiv ofdiv (em_var (pv 2)) (em_int))) (am_cons (em_op op_mulAll omulAll (em_ix ix_seq oix (em_var (pv 0)) (em_int) (fun _ _ => rfl)) (em_var (pv 2))) (am_cons (em_ix ix_seq oix (em_var (pv 0)) (em_int) (fun _ _ => rfl)) (am_nil)))))))))
theorem ok__law_round (c : He.SaysD fa fn K) (KX : K.In base) (G : base.Ns mainGlobals mg) : ∃ fd, OkF P w K mg base 9 (He.fAd K ("_law_round", none)) ["kind", "value", "lines"] [false, false, false] (F__law_round (He.ga K "Lines")) fd := by
  obtain ⟨fd, F⟩ := c.def_ 36 (d := d__law_round) rfl
  obtain ⟨fd__law_joined, g__law_joined⟩ := ok__law_joined (P := P) (w := w) c KX G
  obtain ⟨fd__law_same, g__law_same⟩ := ok__law_same (P := P) (w := w) c KX G
  obtain ⟨fd__law_written, g__law_written⟩ := ok__law_written (P := P) (w := w) c KX G
  obtain ⟨fd__law_told, g__law_told⟩ := ok__law_told (P := P) (w := w) c KX G
  have h_glo__law_joined := He.glo_ok KX G (c.fact 44 (f := .glo "_law_joined") rfl)
  have h_free_len := He.free_ok KX G (c.fact 2 (f := .free "len") rfl)
  have h_glo__law_written := He.glo_ok KX G (c.fact 45 (f := .glo "_law_written") rfl)
  have h_glo__law_same := He.glo_ok KX G (c.fact 27 (f := .glo "_law_same") rfl)
  have h_glo__law_told := He.glo_ok KX G (c.fact 46 (f := .glo "_law_told") rfl)
  refine ⟨fd, fn_okM (N := ["kind", "value", "lines", "text"]) (ps := ["kind", "value", "lines"]) (fl := [false, false, false]) (mb := m__law_round (He.ga K "Lines")) F ⟨rfl, rfl, rfl, by decide +kernel, rfl, by decide +kernel, by decide +kernel⟩ rfl (fun _ _ _ _ _ _ us hl => match us, hl with | [_, _, _], _ => rfl) fun cdv A outer s H vs E hr => ?_⟩
  have tk : Takes (cxOf (L2.CX P w) P w K mg base ["kind", "value", "lines", "text"] d__law_round.qual d__law_round.scope (He.fAd K ("_law_round", none)) cdv A outer s H E) (Wf E) := takes_of rfl rfl rfl rfl
  have hN : (["kind", "value", "lines", "text"] : List Str).Nodup := by decide +kernel
  exact sm_cons (sm_set hN rfl (by first | exact .inl rfl | exact .inr rfl) (pin_no rfl) (em_call g__law_joined.ok tk (hr.mono (by decide)) (by rfl) h_glo__law_joined g__law_joined.kp g__law_joined.binds (am_cons (em_var (pv 2)) (am_nil)))) (sm_cons (sm_if (tm_cmp op_gt ogt (em_callB call_lenA olen (by rfl) h_free_len boot_len (am_cons (em_var (pv 3)) (am_nil))) (em_int) (nomark _)) (sm_one (sm_ret (em_bl))) (sm_nil)) (sm_cons (sm_if (tm_not (tm_tru (em_call g__law_same.ok tk (hr.mono (by decide)) (by rfl) h_glo__law_same g__law_same.kp g__law_same.binds (am_cons (em_call g__law_written.ok tk (hr.mono (by decide)) (by rfl) h_glo__law_written g__law_written.kp g__law_written.binds (am_cons (em_var (pv 0)) (am_cons (em_var (pv 1)) (am_nil)))) (am_cons (em_var (pv 3)) (am_nil)))))) (sm_one (sm_ret (em_bl))) (sm_nil)) (sm_one (sm_ret (em_call g__law_same.ok tk (hr.mono (by decide)) (by rfl) h_glo__law_same g__law_same.kp g__law_same.binds (am_cons (em_call g__law_told.ok tk (hr.mono (by decide)) (by rfl) h_glo__law_told g__law_told.kp g__law_told.binds (am_cons (em_var (pv 0)) (am_cons (em_var (pv 3)) (am_nil)))) (am_cons (em_var (pv 1)) (am_nil))))))))
theorem ok_law (c : He.SaysD fa fn K) (KX : K.In base) (G : base.Ns mainGlobals mg) {fd : FuncData} (F : FunD K d_law.name d_law.qual d_law.params d_law.body d_law.scope [] [] (He.fAd K ("law", none)) fd) : OkF P w K mg base 10 (He.fAd K ("law", none)) ["script"] [false] (F_law (He.ga K "Lines")) fd := by
  obtain ⟨fd__law_draws, g__law_draws⟩ := ok__law_draws (P := P) (w := w) c KX G
  obtain ⟨fd__law_round, g__law_round⟩ := ok__law_round (P := P) (w := w) c KX G
  obtain ⟨fd__law_two_value, g__law_two_value⟩ := ok__law_two_value (P := P) (w := w) c KX G
  obtain ⟨fd__law_two_lines, g__law_two_lines⟩ := ok__law_two_lines (P := P) (w := w) c KX G
  obtain ⟨fd__law_take, g__law_take⟩ := ok__law_take (P := P) (w := w) c KX G
  obtain ⟨fd__law_large, g__law_large⟩ := ok__law_large (P := P) (w := w) c KX G
  have h_glo__law_draws := He.glo_ok KX G (c.fact 47 (f := .glo "_law_draws") rfl)
  have h_glo__law_round := He.glo_ok KX G (c.fact 48 (f := .glo "_law_round") rfl)
  have h_free_range := He.free_ok KX G (c.fact 24 (f := .free "range") rfl)
  have h_glo__law_two_value := He.glo_ok KX G (c.fact 49 (f := .glo "_law_two_value") rfl)
  have h_glo__law_two_lines := He.glo_ok KX G (c.fact 50 (f := .glo "_law_two_lines") rfl)
  have h_glo__law_take := He.glo_ok KX G (c.fact 28 (f := .glo "_law_take") rfl)
  have h_glo__law_large := He.glo_ok KX G (c.fact 51 (f := .glo "_law_large") rfl)
  refine fn_okM (N := ["script", "draws", "drawn", "known", "house", "lines", "row", "kind", "value", "one", "more"]) (ps := ["script"]) (fl := [false]) (mb := m_law (He.ga K "Lines")) F ⟨rfl, rfl, rfl, by decide +kernel, rfl, by decide +kernel, by decide +kernel⟩ rfl (fun _ _ _ _ _ _ us hl => match us, hl with | [_], _ => rfl) fun cdv A outer s H vs E hr => ?_
  have tk : Takes (cxOf (L2.CX P w) P w K mg base ["script", "draws", "drawn", "known", "house", "lines", "row", "kind", "value", "one", "more"] d_law.qual d_law.scope (He.fAd K ("law", none)) cdv A outer s H E) (Wf E) := takes_of rfl rfl rfl rfl
  have hN : (["script", "draws", "drawn", "known", "house", "lines", "row", "kind", "value", "one", "more"] : List Str).Nodup := by decide +kernel
  have hpo := passes_of (X := cxOf (L2.CX P w) P w K mg base ["script", "draws", "drawn", "known", "house", "lines", "row", "kind", "value", "one", "more"] d_law.qual d_law.scope (He.fAd K ("law", none)) cdv A outer s H E) rfl
  exact sm_cons (sm_set hN rfl (by first | exact .inl rfl | exact .inr rfl) (pin_no rfl) (em_call g__law_draws.ok tk (hr.mono (by decide)) (by rfl) h_glo__law_draws g__law_draws.kp g__law_draws.binds (am_cons (em_var (pv 0)) (am_cons (em_int) (am_nil))))) (sm_cons (sm_set hN rfl (by first | exact .inl rfl | exact .inr rfl) (pin_no rfl) (em_sl01 (em_var (pv 1)) (em_int))) (sm_cons (sm_set hN rfl (by first | exact .inl rfl | exact .inr rfl) (pin_no rfl) (em_sl10 (em_var (pv 1)) (em_int))) (sm_cons (sm_set hN rfl (by first | exact .inl rfl | exact .inr rfl) (pin_no rfl) (em_lst (am_cons (em_tup (am_cons (em_int) (am_cons (em_tup (am_cons (em_tup (am_nil)) (am_cons (em_tup (am_nil)) (am_cons (em_int) (am_nil))))) (am_cons (em_frz (em_lst (am_cons (em_str (l := [112, 105, 110, 110, 105, 110, 103, 115])) (am_cons (em_str (l := [116, 114, 105, 101, 115, 32, 48])) (am_nil))))) (am_nil))))) (am_nil)))) (sm_cons (sm_expr (em_mut mt_append mapp PySem.F.slot_list_append PySem.F.type_list_append (pv 3) (am_cons (em_tup (am_cons (em_int) (am_cons (em_tup (am_cons (em_tup (am_cons (em_tup (am_cons (em_int) (am_cons (em_int) (am_nil)))) (am_cons (em_tup (am_nil)) (am_nil)))) (am_cons (em_tup (am_cons (em_int) (am_cons (em_int) (am_nil)))) (am_cons (em_neg (em_int)) (am_nil))))) (am_cons (em_frz (em_lst (am_cons (em_str (l := [107, 101, 121, 32, 48, 32, 50])) (am_cons (em_str (l := [107, 101, 121])) (am_cons (em_str (l := [112, 105, 110, 110, 105, 110, 103, 115, 32, 49, 32, 48])) (am_cons (em_str (l := [116, 114, 105, 101, 115, 32, 45, 55])) (am_nil))))))) (am_nil))))) (am_nil)))) (sm_cons (sm_set hN rfl (by first | exact .inl rfl | exact .inr rfl) (pin_no rfl) (em_tup (am_cons (em_tup (am_cons (em_int) (am_cons (em_int) (am_cons (em_int) (am_nil))))) (am_cons (em_tup (am_cons (em_tup (am_cons (em_int) (am_cons (em_int) (am_nil)))) (am_nil))) (am_cons (em_tup (am_cons (em_tup (am_cons (em_tup (am_cons (em_tup (am_cons (em_int) (am_cons (em_int) (am_nil)))) (am_cons (em_tup (am_nil)) (am_nil)))) (am_cons (em_tup (am_nil)) (am_nil)))) (am_cons (em_tup (am_nil)) (am_nil)))) (am_cons (em_tup (am_cons (em_int) (am_cons (em_int) (am_nil)))) (am_cons (em_int) (am_nil)))))))) (sm_cons (sm_set hN rfl (by first | exact .inl rfl | exact .inr rfl) (pin_no rfl) (em_frz (em_lst (am_cons (em_str (l := [108, 105, 110, 101, 32, 50, 32, 49, 48, 32, 48])) (am_cons (em_str (l := [107, 101, 121, 32, 57, 32, 48])) (am_cons (em_str (l := [112, 105, 110, 110, 105, 110, 103])) (am_cons (em_str (l := [108, 111, 99, 107])) (am_cons (em_str (l := [99, 104, 97, 109, 98, 101, 114, 32, 48, 32, 57])) (am_cons (em_str (l := [99, 104, 97, 109, 98, 101, 114])) (am_cons (em_str (l := [108, 111, 99, 107])) (am_cons (em_str (l := [112, 105, 110, 110, 105, 110, 103])) (am_nil)))))))))))) (sm_cons (sm_set hN rfl (by first | exact .inl rfl | exact .inr rfl) (pin_no rfl) (em_frz (em_op op_addAll oaddAll (em_var (pv 5)) (em_lst (am_cons (em_str (l := [112, 108, 97, 99, 101, 115, 32, 50, 32, 48])) (am_cons (em_str (l := [116, 114, 105, 101, 115, 32, 52])) (am_nil))))))) (sm_cons (sm_set hN rfl (by first | exact .inl rfl | exact .inr rfl) (pin_no rfl) (em_op op_addAll oaddAll (em_var (pv 3)) (em_lst (am_cons (em_tup (am_cons (em_int) (am_cons (em_var (pv 4)) (am_cons (em_var (pv 5)) (am_nil))))) (am_cons (em_tup (am_cons (em_int) (am_cons (em_tup (am_cons (em_tup (am_cons (em_int) (am_cons (em_int) (am_cons (em_int) (am_nil))))) (am_cons (em_tup (am_nil)) (am_cons (em_tup (am_nil)) (am_cons (em_tup (am_nil)) (am_cons (em_int) (am_nil))))))) (am_cons (em_frz (em_lst (am_cons (em_str (l := [108, 105, 110, 101, 32, 48, 32, 48, 32, 48])) (am_cons (em_str (l := [112, 108, 97, 99, 101, 115])) (am_cons (em_str (l := [116, 114, 105, 101, 115, 32, 48])) (am_nil)))))) (am_nil))))) (am_nil)))))) (sm_cons (sm_for hpo rfl (im_seq (em_frz (em_var (pv 3)))) (gm_name hN rfl (by first | exact .inl rfl | exact .inr rfl) (pin_no rfl)) (sm_one (sm_if (tm_not (tm_tru (em_call g__law_round.ok tk (hr.mono (by decide)) (by rfl) h_glo__law_round g__law_round.kp g__law_round.binds (am_cons (em_ix ix_seq oix (em_var (pv 6)) (em_int) (fun _ _ => rfl)) (am_cons (em_ix ix_seq oix (em_var (pv 6)) (em_int) (fun _ _ => rfl)) (am_cons (em_ix ix_seq oix (em_var (pv 6)) (em_int) (fun _ _ => rfl)) (am_nil))))))) (sm_one (sm_ret (em_bl))) (sm_nil)))) (sm_cons (sm_for hpo rfl (im_rng1 (by rfl) h_free_range (em_int)) (gm_name hN rfl (by first | exact .inl rfl | exact .inr rfl) (pin_no rfl)) (sm_cons (sm_set hN rfl (by first | exact .inl rfl | exact .inr rfl) (pin_no rfl) (em_call g__law_two_value.ok tk (hr.mono (by decide)) (by rfl) h_glo__law_two_value g__law_two_value.kp g__law_two_value.binds (am_cons (em_var (pv 0)) (am_cons (em_var (pv 1)) (am_cons (em_var (pv 7)) (am_nil)))))) (sm_cons (sm_for hpo rfl (im_seq (em_frz (em_lst (am_cons (em_var (pv 8)) (am_cons (em_call g__law_two_value.ok tk (hr.mono (by decide)) (by rfl) h_glo__law_two_value g__law_two_value.kp g__law_two_value.binds (am_cons (em_var (pv 0)) (am_cons (em_var (pv 1)) (am_cons (em_var (pv 7)) (am_nil))))) (am_cons (em_var (pv 8)) (am_nil))))))) (gm_name hN rfl (by first | exact .inl rfl | exact .inr rfl) (pin_no rfl)) (sm_one (sm_if (tm_not (tm_tru (em_call g__law_round.ok tk (hr.mono (by decide)) (by rfl) h_glo__law_round g__law_round.kp g__law_round.binds (am_cons (em_var (pv 7)) (am_cons (em_var (pv 9)) (am_cons (em_frz (em_call g__law_two_lines.ok tk (hr.mono (by decide)) (by rfl) h_glo__law_two_lines g__law_two_lines.kp g__law_two_lines.binds (am_cons (em_var (pv 7)) (am_cons (em_var (pv 9)) (am_nil))))) (am_nil))))))) (sm_one (sm_ret (em_bl))) (sm_nil)))) (sm_one (sm_if (tm_cmp (op_eqA hr.units) oeq (em_call g__law_take.ok tk (hr.mono (by decide)) (by rfl) h_glo__law_take g__law_take.kp g__law_take.binds (am_cons (em_var (pv 2)) (am_cons (em_int) (am_nil)))) (em_int) (nomark _)) (sm_cons (sm_set hN rfl (by first | exact .inl rfl | exact .inr rfl) (pin_no rfl) (em_call g__law_large.ok tk (hr.mono (by decide)) (by rfl) h_glo__law_large g__law_large.kp g__law_large.binds (am_cons (em_var (pv 8)) (am_cons (em_var (pv 7)) (am_cons (em_op op_addAll oaddAll (em_int) (em_call g__law_take.ok tk (hr.mono (by decide)) (by rfl) h_glo__law_take g__law_take.kp g__law_take.binds (am_cons (em_var (pv 2)) (am_cons (em_int) (am_nil))))) (am_nil)))))) (sm_one (sm_if (tm_not (tm_tru (em_call g__law_round.ok tk (hr.mono (by decide)) (by rfl) h_glo__law_round g__law_round.kp g__law_round.binds (am_cons (em_var (pv 7)) (am_cons (em_var (pv 10)) (am_cons (em_frz (em_call g__law_two_lines.ok tk (hr.mono (by decide)) (by rfl) h_glo__law_two_lines g__law_two_lines.kp g__law_two_lines.binds (am_cons (em_var (pv 7)) (am_cons (em_var (pv 10)) (am_nil))))) (am_nil))))))) (sm_one (sm_ret (em_bl))) (sm_nil)))) (sm_nil)))))) (sm_one (sm_ret (em_bl)))))))))))))
end
abbrev Rw : PySem.W.OpenRow := PySem.W.OpenLaw.row PySem.Challenge.rw_noghostkey_k84_texts_of_houses_and_stand
abbrev hk : PySem.W.Hook := He.hookD 5 fa fn
def ob (s : PySem.W.SharedT) : He.AlD := He.obsDG 5 fa fn (HandSHeadRun.getT s)
theorem ob_eq (s : PySem.W.SharedT) : ob s = hk.obs s.abs := He.obsDG_eq (HandSHeadRun.getT_eq s)
def loose : List Str := (["__name__", "KeyHouseError", "BadText", "DIGITS", "is_integer", "numbers_of", "lines_of", "line", "Lines", "taken_rows"] : List Str) ++ (["written_locks", "locks_of", "write_house", "read_house", "write_stand", "stand_of", "read_stand", "_law_draws", "_law_take", "_law_cell"] : List Str) ++ (["_law_same", "_law_any_number", "_law_some_numbers", "_law_tuples", "_law_any_locks", "_law_any_stands", "_law_text_line", "_law_lock_lines", "_law_house_lines", "_law_stand_lines"] : List Str) ++ (["_law_joined", "_law_two_value", "_law_two_lines", "_law_written", "_law_told", "_law_large", "_law_round"] : List Str)
theorem run (w : World) : HandSHeadRun.RunEq Rw (PySem.W.view Rw.prog [40]) hk ob 2000 loose w := by
  intro os
  kernel_rfl

/-! ### the end -/
section
open FM L2
theorem fzl_only {K : PySem.W.Frag} {H : Hp} {a : PySem.Addr} {xs : List V} (hO : Only H) (h : SqL K H a xs) : FzL K H a xs := by
  rcases h with (h | ⟨o, h⟩) | h
  · rcases hO a with z | ⟨o, ys, z⟩ <;> (rw [z] at h; cases h)
  · exact .inl ⟨o, h⟩
  · exact .inr h
theorem ris_int {K : PySem.W.Frag} {H : Hp} : ∀ ns : List Int, RIs K H (ns.map D.int) (ns.map V.int)
  | [] => .nil
  | n :: ns => .cons (.int n) (ris_int ns)
theorem law_sp {K : PySem.W.Frag} {C : PySem.Addr} {H : Hp} {a : PySem.Addr} {ns : List Int} (hn : ns.length ≤ 63) (hO : Only H) (hS : SqL K H a (ns.map V.int)) : spM K [false] (F_law C) [.ref a] H (fun v _ => v = .bl true) fun _ _ _ => False := by
  refine ⟨rfl, [.lst (ns.map .int)], [] ++ [], .cons (.imm (.lst (fzl_only hO hS) (ris_int ns))) .nil, by simp, ?_⟩
  rw [S_law (by omega)]
  intro v H' fd fi h _ _ _
  cases h with
  | imm h =>
    cases h
    rfl
theorem hCX0 {P : PySem.Program} {w : PySem.World} {H : Hp} {s : PySem.Shared} {e : PySem.Value} {s' : PySem.Shared} (h : L2.CX P w [] H s (fun _ _ _ => False) e s') : False := by
  obtain ⟨_, _, _, _, _, _, _, _, _, _, _, _, z⟩ := h
  exact z.elim
theorem law_facts {P : PySem.Program} {w : PySem.World} {K : PySem.W.Frag} {h : PySem.Heap} {mg : PySem.Str → Option PySem.Value} {f : PySem.Addr} (X : K.In h) (G : h.Ns PySem.mainGlobals mg) (hfa : mg ("law" : PySem.Str) = some (.ref f)) (c : He.SaysD fa fn K) :
    ∃ fd : PySem.FuncData, (∀ (s : PySem.Shared) (v : PySem.Value), PySem.BindsTo s fd ⟨[v], []⟩ [("script", v)]) ∧ ∀ base : PySem.Heap, K.In base → base.Ns PySem.mainGlobals mg → FnOk P w K mg base (L2.CX P w) 10 f fd ["script"] (spM K [false] (F_law (He.ga K "Lines"))) := by
  obtain ⟨fd, F⟩ := c.def_ 37 (d := d_law) rfl
  have e := hfa.symm.trans (He.glo_ok X G (c.fact 52 (f := .glo "law") rfl))
  cases e
  have b := L2.FunD.bindsA (ps := ["script"]) F fun _ _ _ _ _ _ us hl => match us, hl with | [_], _ => rfl
  refine ⟨fd, fun s v => b s [v] rfl, fun base X' G' => ?_⟩
  exact (ok_law (P := P) (w := w) c X' G' F).ok
end
end K84
open PySem PySem.W PySem.Calls PyProof.Rows
theorem PySem.Challenge.cw_noghostkey_k84_texts_of_houses_and_stand_holds : PySem.Challenge.rw_noghostkey_k84_texts_of_houses_and_stand.Holds := by
  w_on; o_law
  refine HandSHeadRun.head_any (r := OpenLaw.row PySem.Challenge.rw_noghostkey_k84_texts_of_houses_and_stand) (q := view (OpenLaw.row PySem.Challenge.rw_noghostkey_k84_texts_of_houses_and_stand).prog [40]) (H := K84.hk) (ob := K84.ob) (M := 2000) (loose := K84.loose) (d := HandSHeadRun.topDef (OpenLaw.row PySem.Challenge.rw_noghostkey_k84_texts_of_houses_and_stand).prog 40) (kwd := []) K84.ob_eq
    (by kernel_rfl) (fun s => by kernel_rfl) K84.run (by kernel_rfl) (by kernel_rfl) (by kernel_rfl) (by rfl) (by first | assumption | decide +kernel) (by decide +kernel) ⟨rfl, rfl, rfl, rfl, rfl, by decide +kernel⟩ ?hw ?hc
  case hw => w_witness2
  case hc =>
    refine FM.walk_w (l := PySem.Challenge.rw_noghostkey_k84_texts_of_houses_and_stand) (n := 63) (k := 10) (x := "script") (cx := L2.CX (PySem.Challenge.rw_noghostkey_k84_texts_of_houses_and_stand).prog) rfl (by decide) (by kernel_rfl) ⟨rfl, by decide, by decide⟩ ?F (fun _ _ _ _ _ z => K84.hCX0 z)
    intro w mg fa h Y G hmg0
    obtain ⟨K, KX, c⟩ := Y
    have hmg : mg ("law" : PySem.Str) = some (.ref fa) := by
      have e : (HandSHeadRun.topDef (OpenLaw.row PySem.Challenge.rw_noghostkey_k84_texts_of_houses_and_stand).prog 40).name = ("law" : PySem.Str) := by kernel_rfl
      rw [← e]
      exact hmg0
    obtain ⟨fd, hb, hF⟩ := K84.law_facts (P := (PySem.Challenge.rw_noghostkey_k84_texts_of_houses_and_stand).prog) (w := w) KX G hmg c
    exact ⟨K, fd, _, KX, hb, fun H a ns hl hO hS => K84.law_sp hl hO hS, hF⟩
