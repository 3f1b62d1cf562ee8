import PyProof.Rows.All
import Wide.All
import OpenK.AllK
import Wide.FinOn
import HandS.ForMost
import HandS.ForExc
import HandS.IsInst
import HandS.Defaults
import HandS.MakeKw
import HandS.MakeKwOnly
import HandS.ClsMeth
import HandS.Property
import HandS.Wide
import HandS.SortInts
import HandS.SortKw
import HandS.TupAny
import HandS.ExcIs
import HandS.Conv
import KE.GoesEnum
import HandS.Head0
import HandS.Head1
import HandS.Head2
import HandS.HeadEnd
import HandS.HeadHook1
import HandS.HeadHook2
import PySem.Challenge.RW_shadedstrings_k05_knots
set_option Elab.async false
set_option linter.all false
set_option maxRecDepth 100000
set_option maxHeartbeats 4000000
/-! DEN, part 1: plain values, how the heap bears them, slots. -/
namespace DN
open PySem PySem.Spec PyProof.Rows L2

/-- plain values; a list or an instance is owned (o = true: may be changed, no other name has it) or frozen -/
inductive PV where
  | non | bl (b : Bool) | int (i : Int) | str (x : Str)
  | tup (xs : List PV) | lst (o : Bool) (xs : List PV) | ins (o : Bool) (c : Nat) (xs : List PV)
  | cls (c : Nat)
  /-- the script's list: read only -/
  | scr (ns : List Int)
  deriving Inhabited

abbrev DEnv := List (Option PV)
abbrev St := L2.St

/-- what a program's classes are: their addresses, their fields -/
structure CTab where
  K : PySem.W.Frag
  adr : Nat → Addr
  fld : Nat → List Str
  /-- the defs: address, data, parameters -/
  fa : Nat → Addr
  fd : Nat → FuncData
  fp : Nat → List Str
def zipF (T : CTab) (c : Nat) (vs : List V) : List (Str × V) := (T.fld c).zip vs

mutual
/-- v bears x in the heap H, whose frozen part is Hf; O: the owned addresses in it -/
inductive Rep (T : CTab) (Hf H : Hp) : PV → V → List Addr → Prop
  | non : Rep T Hf H .non .non []
  | bl (b : Bool) : Rep T Hf H (.bl b) (.bl b) []
  | int (i : Int) : Rep T Hf H (.int i) (.int i) []
  | str (x : Str) : Rep T Hf H (.str x) (.str x) []
  | tup {a : Addr} {xs : List PV} {vs : List V} : Hf a = some (.tup vs) → Reps T Hf H xs vs [] → Rep T Hf H (.tup xs) (.ref a) []
  | lstF {a : Addr} {xs : List PV} {vs : List V} : Hf a = some (.lst vs) → Reps T Hf H xs vs [] → Rep T Hf H (.lst false xs) (.ref a) []
  | lstO {a : Addr} {xs : List PV} {vs : List V} {O : List Addr} : H a = some (.lst vs) → Reps T Hf H xs vs O → Rep T Hf H (.lst true xs) (.ref a) (a :: O)
  | insF {a dx : Addr} {c : Nat} {xs : List PV} {vs : List V} : Hf a = some (.ins (T.adr c) dx (zipF T c vs)) → vs.length ≤ (T.fld c).length → Reps T Hf H xs vs [] → Rep T Hf H (.ins false c xs) (.ref a) []
  | insO {a dx : Addr} {c : Nat} {xs : List PV} {vs : List V} {O : List Addr} : H a = some (.ins (T.adr c) dx (zipF T c vs)) → vs.length ≤ (T.fld c).length → Reps T Hf H xs vs O → Rep T Hf H (.ins true c xs) (.ref a) (a :: O)
  | cls (c : Nat) : Rep T Hf H (.cls c) (.ref (T.adr c)) []
  | scr {a : Addr} {ns : List Int} : SqL T.K Hf a (ns.map V.int) → Rep T Hf H (.scr ns) (.ref a) []
inductive Reps (T : CTab) (Hf H : Hp) : List PV → List V → List Addr → Prop
  | nil : Reps T Hf H [] [] []
  | cons {x : PV} {v : V} {xs : List PV} {vs : List V} {O1 O2 : List Addr} : Rep T Hf H x v O1 → Reps T Hf H xs vs O2 → Reps T Hf H (x :: xs) (v :: vs) (O1 ++ O2)
end

section
variable {T : CTab} {Hf H Hf' H' : Hp}

mutual
/-- the owned addresses stand -/
theorem Rep.there : ∀ {x : PV} {v : V} {O : List Addr}, Rep T Hf H x v O → ∀ a ∈ O, ∃ o, H a = some o
  | _, _, _, .lstO h r, a, ha => by
    rcases List.mem_cons.mp ha with e | e
    · subst e; exact ⟨_, h⟩
    · exact r.there a e
  | _, _, _, .insO h _ r, a, ha => by
    rcases List.mem_cons.mp ha with e | e
    · subst e; exact ⟨_, h⟩
    · exact r.there a e
  | _, _, _, .non, _, ha => nomatch ha
  | _, _, _, .bl _, _, ha => nomatch ha
  | _, _, _, .int _, _, ha => nomatch ha
  | _, _, _, .str _, _, ha => nomatch ha
  | _, _, _, .tup _ _, _, ha => nomatch ha
  | _, _, _, .lstF _ _, _, ha => nomatch ha
  | _, _, _, .insF _ _ _, _, ha => nomatch ha
  | _, _, _, .cls _, _, ha => nomatch ha
  | _, _, _, .scr _, _, ha => nomatch ha
theorem Reps.there : ∀ {xs : List PV} {vs : List V} {O : List Addr}, Reps T Hf H xs vs O → ∀ a ∈ O, ∃ o, H a = some o
  | _, _, _, .nil, _, ha => nomatch ha
  | _, _, _, .cons h r, a, ha => by
    rcases List.mem_append.mp ha with e | e
    · exact h.there a e
    · exact r.there a e
end

mutual
/-- carried to a later heap -/
theorem Rep.move : ∀ {x : PV} {v : V} {O : List Addr}, Rep T Hf H x v O → Same Hf Hf' → (∀ a ∈ O, H' a = H a) → Rep T Hf' H' x v O
  | _, _, _, .lstO h r, s, k => .lstO ((k _ List.mem_cons_self).trans h) (r.move s fun a ha => k a (List.mem_cons_of_mem _ ha))
  | _, _, _, .insO h l r, s, k => .insO ((k _ List.mem_cons_self).trans h) l (r.move s fun a ha => k a (List.mem_cons_of_mem _ ha))
  | _, _, _, .non, _, _ => .non
  | _, _, _, .bl b, _, _ => .bl b
  | _, _, _, .int i, _, _ => .int i
  | _, _, _, .str x, _, _ => .str x
  | _, _, _, .tup h r, s, _ => .tup (s _ _ h) (r.move s fun _ h => nomatch h)
  | _, _, _, .lstF h r, s, _ => .lstF (s _ _ h) (r.move s fun _ h => nomatch h)
  | _, _, _, .insF h l r, s, _ => .insF (s _ _ h) l (r.move s fun _ h => nomatch h)
  | _, _, _, .cls c, _, _ => .cls c
  | _, _, _, .scr h, s, _ => .scr (s.seq h)
theorem Reps.move : ∀ {xs : List PV} {vs : List V} {O : List Addr}, Reps T Hf H xs vs O → Same Hf Hf' → (∀ a ∈ O, H' a = H a) → Reps T Hf' H' xs vs O
  | _, _, _, .nil, _, _ => .nil
  | _, _, _, .cons h r, s, k => .cons (h.move s fun a ha => k a (List.mem_append_left _ ha)) (r.move s fun a ha => k a (List.mem_append_right _ ha))
end
theorem Rep.still {x : PV} {v : V} (r : Rep T Hf H x v []) (s : Same Hf Hf') : Rep T Hf' H' x v [] := r.move s fun _ h => nomatch h
theorem Reps.still {xs : List PV} {vs : List V} (r : Reps T Hf H xs vs []) (s : Same Hf Hf') : Reps T Hf' H' xs vs [] := r.move s fun _ h => nomatch h

theorem Reps.len : ∀ {xs : List PV} {vs : List V} {O : List Addr}, Reps T Hf H xs vs O → xs.length = vs.length
  | _, _, _, .nil => rfl
  | _, _, _, .cons _ r => congrArg (· + 1) r.len

theorem Reps.nil_parts {xs : List PV} {vs : List V} {x : PV} {v : V} (r : Reps T Hf H (x :: xs) (v :: vs) []) : Rep T Hf H x v [] ∧ Reps T Hf H xs vs [] := by
  generalize hO : ([] : List Addr) = O at r
  cases r with
  | cons h r =>
    rename_i O1 O2
    obtain ⟨e1, e2⟩ := List.append_eq_nil_iff.mp hO.symm
    subst e1 e2
    exact ⟨h, r⟩
theorem Reps.consN {x : PV} {v : V} {xs : List PV} {vs : List V} (h : Rep T Hf H x v []) (r : Reps T Hf H xs vs []) : Reps T Hf H (x :: xs) (v :: vs) [] := by
  have z := Reps.cons h r
  exact z

/-- one item, and how another one takes its place -/
theorem Reps.focus : ∀ {xs : List PV} {vs : List V} {O : List Addr} {k : Nat} {x : PV}, Reps T Hf H xs vs O → xs[k]? = some x →
    ∃ v O1 Om O2, vs[k]? = some v ∧ O = O1 ++ (Om ++ O2) ∧ Rep T Hf H x v Om ∧
      ∀ {Hf' H' : Hp} {x' : PV} {v' : V} {Om' : List Addr}, Same Hf Hf' → (∀ a, a ∈ O1 ∨ a ∈ O2 → H' a = H a) → Rep T Hf' H' x' v' Om' → Reps T Hf' H' (xs.set k x') (vs.set k v') (O1 ++ (Om' ++ O2))
  | _, _, _, 0, _, .cons (O1 := Oa) (O2 := Ob) h r, e => by
    cases e
    refine ⟨_, [], Oa, Ob, rfl, rfl, h, fun s k h' => ?_⟩
    have z := Reps.cons h' (r.move s fun a ha => k a (.inr ha))
    exact z
  | _, _, _, k + 1, _, .cons (O1 := Oa) (O2 := Ob) h r, e => by
    obtain ⟨v, O1, Om, O2, e1, e2, e3, p⟩ := r.focus (k := k) (by simpa using e)
    subst e2
    refine ⟨v, Oa ++ O1, Om, O2, by simpa using e1, by simp, e3, fun s kk h' => ?_⟩
    have z := Reps.cons (h.move s fun a ha => kk a (.inl (List.mem_append_left _ ha))) (p s (fun a ha => kk a (ha.imp (List.mem_append_right _) id)) h')
    simpa using z
theorem Reps.at_ {xs : List PV} {vs : List V} {k : Nat} {x : PV} (r : Reps T Hf H xs vs []) (e : xs[k]? = some x) : ∃ v, vs[k]? = some v ∧ Rep T Hf H x v [] := by
  obtain ⟨v, O1, Om, O2, e1, e2, e3, _⟩ := r.focus e
  have : Om = [] := by
    have z := (List.append_eq_nil_iff.mp e2.symm).2
    exact (List.append_eq_nil_iff.mp z).1
  subst this
  exact ⟨v, e1, e3⟩

theorem Reps.app : ∀ {xs ys : List PV} {vs ws : List V} {O1 O2 : List Addr}, Reps T Hf H xs vs O1 → Reps T Hf H ys ws O2 → Reps T Hf H (xs ++ ys) (vs ++ ws) (O1 ++ O2)
  | _, _, _, _, _, _, .nil, r => r
  | _, _, _, _, _, _, .cons h q, r => by
    have z := Reps.cons h (q.app r)
    simpa using z
theorem Reps.appN {xs ys : List PV} {vs ws : List V} (h : Reps T Hf H xs vs []) (r : Reps T Hf H ys ws []) : Reps T Hf H (xs ++ ys) (vs ++ ws) [] := h.app r
theorem Reps.take : ∀ {xs : List PV} {vs : List V} (n : Nat), Reps T Hf H xs vs [] → Reps T Hf H (xs.take n) (vs.take n) []
  | _, _, 0, _ => .nil
  | [], [], _ + 1, _ => .nil
  | x :: xs, v :: vs, n + 1, r => Reps.consN r.nil_parts.1 (r.nil_parts.2.take n)
  | [], _ :: _, _ + 1, r => nomatch r.len
  | _ :: _, [], _ + 1, r => nomatch r.len
theorem Reps.drop : ∀ {xs : List PV} {vs : List V} (n : Nat), Reps T Hf H xs vs [] → Reps T Hf H (xs.drop n) (vs.drop n) []
  | _, _, 0, r => r
  | [], [], _ + 1, _ => .nil
  | x :: xs, v :: vs, n + 1, r => r.nil_parts.2.drop n
  | [], _ :: _, _ + 1, r => nomatch r.len
  | _ :: _, [], _ + 1, r => nomatch r.len
theorem Reps.rev : ∀ {xs : List PV} {vs : List V}, Reps T Hf H xs vs [] → Reps T Hf H xs.reverse vs.reverse []
  | [], [], _ => .nil
  | x :: xs, v :: vs, r => by
    rw [List.reverse_cons, List.reverse_cons]
    exact r.nil_parts.2.rev.appN (.consN r.nil_parts.1 .nil)
  | [], _ :: _, r => nomatch r.len
  | _ :: _, [], r => nomatch r.len
theorem Reps.rep {xs : List PV} {vs : List V} (r : Reps T Hf H xs vs []) : ∀ k : Nat, Reps T Hf H (List.replicate k xs).flatten (List.replicate k vs).flatten []
  | 0 => .nil
  | k + 1 => by
    rw [List.replicate_succ, List.replicate_succ, List.flatten_cons, List.flatten_cons]
    exact r.appN (r.rep k)

/-! ### freezing -/
def PV.own : PV → Bool
  | .lst true _ => true
  | .ins true _ _ => true
  | _ => false
mutual
def PV.frz : PV → PV
  | .lst _ xs => .lst false (frzs xs)
  | .ins _ c xs => .ins false c (frzs xs)
  | x => x
def frzs : List PV → List PV
  | [] => []
  | x :: xs => x.frz :: frzs xs
end
theorem Rep.notOwn {x : PV} {v : V} {O : List Addr} (r : Rep T Hf H x v O) (h : x.own = false) : O = [] := by
  cases r <;> first | rfl | (cases h)
theorem Reps.notOwn : ∀ {xs : List PV} {vs : List V} {O : List Addr}, Reps T Hf H xs vs O → (xs.all fun x => !x.own) = true → O = []
  | _, _, _, .nil, _ => rfl
  | _, _, _, .cons h r, e => by
    rw [List.all_cons, Bool.and_eq_true] at e
    have e1 := h.notOwn (by simpa using e.1)
    have e2 := r.notOwn e.2
    rw [e1, e2]
    rfl
/-- the frozen part grown by O -/
def frzH (Hf H : Hp) (O : List Addr) : Hp := fun a => if a ∈ O then H a else Hf a
theorem frzH_same {O : List Addr} (d : ∀ a ∈ O, Hf a = none) : Same Hf (frzH Hf H O) := fun a o e => by
  unfold frzH
  by_cases h : a ∈ O
  · rw [d a h] at e; cases e
  · rw [if_neg h]; exact e
theorem frzH_sub {O : List Addr} (s : Same Hf H) : Same (frzH Hf H O) H := fun a o e => by
  unfold frzH at e
  by_cases h : a ∈ O
  · rw [if_pos h] at e; exact e
  · rw [if_neg h] at e; exact s _ _ e
theorem frzH_new {O : List Addr} {a : Addr} (e : frzH Hf H O a ≠ none) : Hf a ≠ none ∨ a ∈ O := by
  unfold frzH at e
  by_cases h : a ∈ O
  · exact .inr h
  · rw [if_neg h] at e; exact .inl e
mutual
theorem Rep.frz : ∀ {x : PV} {v : V} {O Q : List Addr}, Rep T Hf H x v O → (∀ a ∈ O, a ∈ Q) → Same Hf (frzH Hf H Q) → Rep T (frzH Hf H Q) H x.frz v []
  | _, _, _, _, .lstO h r, s, k => .lstF (by unfold frzH; rw [if_pos (s _ List.mem_cons_self)]; exact h) (r.frz (fun a ha => s a (List.mem_cons_of_mem _ ha)) k)
  | _, _, _, _, .insO h l r, s, k => .insF (by unfold frzH; rw [if_pos (s _ List.mem_cons_self)]; exact h) l (r.frz (fun a ha => s a (List.mem_cons_of_mem _ ha)) k)
  | _, _, _, _, .non, _, _ => .non
  | _, _, _, _, .bl b, _, _ => .bl b
  | _, _, _, _, .int i, _, _ => .int i
  | _, _, _, _, .str x, _, _ => .str x
  | _, _, _, _, .tup h r, s, k => .tup (k _ _ h) (r.still k)
  | _, _, _, _, .lstF h r, s, k => .lstF (k _ _ h) (r.frz s k)
  | _, _, _, _, .insF h l r, s, k => .insF (k _ _ h) l (r.frz s k)
  | _, _, _, _, .cls c, _, _ => .cls c
  | _, _, _, _, .scr h, _, k => .scr (k.seq h)
theorem Reps.frz : ∀ {xs : List PV} {vs : List V} {O Q : List Addr}, Reps T Hf H xs vs O → (∀ a ∈ O, a ∈ Q) → Same Hf (frzH Hf H Q) → Reps T (frzH Hf H Q) H (frzs xs) vs []
  | _, _, _, _, .nil, _, _ => .nil
  | _, _, _, _, .cons h r, s, k => Reps.consN (h.frz (fun a ha => s a (List.mem_append_left _ ha)) k) (r.frz (fun a ha => s a (List.mem_append_right _ ha)) k)
end

/-! ### slots -/
inductive EnvR (T : CTab) (Hf H : Hp) : DEnv → St → List Addr → Prop
  | nil : EnvR T Hf H [] [] []
  | non {e : DEnv} {s : St} {O : List Addr} (v : Option V) : EnvR T Hf H e s O → EnvR T Hf H (none :: e) (v :: s) O
  | som {x : PV} {v : V} {e : DEnv} {s : St} {O1 O2 : List Addr} : Rep T Hf H x v O1 → EnvR T Hf H e s O2 → EnvR T Hf H (some x :: e) (some v :: s) (O1 ++ O2)
theorem EnvR.len : ∀ {e : DEnv} {s : St} {O : List Addr}, EnvR T Hf H e s O → e.length = s.length
  | _, _, _, .nil => rfl
  | _, _, _, .non _ r => congrArg (· + 1) r.len
  | _, _, _, .som _ r => congrArg (· + 1) r.len
theorem EnvR.there : ∀ {e : DEnv} {s : St} {O : List Addr}, EnvR T Hf H e s O → ∀ a ∈ O, ∃ o, H a = some o
  | _, _, _, .nil, _, ha => nomatch ha
  | _, _, _, .non _ r, a, ha => r.there a ha
  | _, _, _, .som h r, a, ha => by
    rcases List.mem_append.mp ha with e | e
    · exact h.there a e
    · exact r.there a e
theorem EnvR.move : ∀ {e : DEnv} {s : St} {O : List Addr}, EnvR T Hf H e s O → Same Hf Hf' → (∀ a ∈ O, H' a = H a) → EnvR T Hf' H' e s O
  | _, _, _, .nil, _, _ => .nil
  | _, _, _, .non v r, s, k => .non v (r.move s k)
  | _, _, _, .som h r, s, k => .som (h.move s fun a ha => k a (List.mem_append_left _ ha)) (r.move s fun a ha => k a (List.mem_append_right _ ha))
/-- one slot, and how another value takes its place -/
theorem EnvR.focus : ∀ {e : DEnv} {s : St} {O : List Addr} {k : Nat} {x : PV}, EnvR T Hf H e s O → e[k]? = some (some x) →
    ∃ v O1 Om O2, s[k]? = some (some v) ∧ O = O1 ++ (Om ++ O2) ∧ Rep T Hf H x v Om ∧
      (∀ {Hf' H' : Hp} {x' : PV} {v' : V} {Om' : List Addr}, Same Hf Hf' → (∀ a, a ∈ O1 ∨ a ∈ O2 → H' a = H a) → Rep T Hf' H' x' v' Om' → EnvR T Hf' H' (e.set k (some x')) (s.set k (some v')) (O1 ++ (Om' ++ O2))) ∧
      (∀ {Hf' H' : Hp}, Same Hf Hf' → (∀ a, a ∈ O1 ∨ a ∈ O2 → H' a = H a) → EnvR T Hf' H' (e.set k none) s (O1 ++ O2))
  | _, _, _, 0, _, .som (O1 := Oa) (O2 := Ob) h r, e => by
    cases e
    refine ⟨_, [], Oa, Ob, rfl, rfl, h, fun s k h' => ?_, fun s k => ?_⟩
    · have z := EnvR.som h' (r.move s fun a ha => k a (.inr ha))
      exact z
    · exact EnvR.non _ (r.move s fun a ha => k a (.inr ha))
  | _, _, _, k + 1, _, .som (O1 := Oa) (O2 := Ob) h r, e => by
    obtain ⟨v, O1, Om, O2, e1, e2, e3, p, q⟩ := r.focus (k := k) (by simpa using e)
    subst e2
    refine ⟨v, Oa ++ O1, Om, O2, by simpa using e1, by simp, e3, fun s kk h' => ?_, fun s kk => ?_⟩
    · have z := EnvR.som (h.move s fun a ha => kk a (.inl (List.mem_append_left _ ha))) (p s (fun a ha => kk a (ha.imp (List.mem_append_right _) id)) h')
      simpa using z
    · have z := EnvR.som (h.move s fun a ha => kk a (.inl (List.mem_append_left _ ha))) (q s (fun a ha => kk a (ha.imp (List.mem_append_right _) id)))
      simpa using z
  | _, _, _, k + 1, _, .non v r, e => by
    obtain ⟨v', O1, Om, O2, e1, e2, e3, p, q⟩ := r.focus (k := k) (by simpa using e)
    refine ⟨v', O1, Om, O2, by simpa using e1, e2, e3, fun s kk h' => ?_, fun s kk => ?_⟩
    · simpa using EnvR.non v (p s kk h')
    · simpa using EnvR.non v (q s kk)
  | _, _, _, 0, _, .non v r, e => by cases e
  | _, _, _, 0, _, .nil, e => by cases e
  | _, _, _, _ + 1, _, .nil, e => by cases e
/-- a slot is filled (its new value v' in the frame's slots) -/
theorem EnvR.put : ∀ {e : DEnv} {s : St} {O : List Addr} {k : Nat} {x : PV} {v : V} {Ox : List Addr}, EnvR T Hf H e s O → Rep T Hf H x v Ox → (O ++ Ox).Nodup → k < e.length →
    ∃ O', EnvR T Hf H (e.set k (some x)) (s.set k (some v)) O' ∧ O'.Nodup ∧ ∀ a ∈ O', a ∈ O ∨ a ∈ Ox
  | _, _, _, 0, _, _, Ox, .som (O2 := Ob) h r, hx, nd, _ => by
    refine ⟨Ox ++ Ob, .som hx r, ?_, fun a ha => ?_⟩
    · rw [List.append_assoc] at nd
      have z := (List.nodup_append.mp nd).2.1
      exact (List.perm_append_comm.nodup_iff).mp z
    · rcases List.mem_append.mp ha with h | h
      · exact .inr h
      · exact .inl (List.mem_append_right _ h)
  | _, _, O, 0, _, _, Ox, .non v r, hx, nd, _ => by
    refine ⟨Ox ++ O, .som hx r, ?_, fun a ha => ?_⟩
    · exact (List.perm_append_comm.nodup_iff).mp nd
    · rcases List.mem_append.mp ha with h | h
      · exact .inr h
      · exact .inl h
  | _, _, _, k + 1, _, _, Ox, .som (O1 := Oa) (O2 := Ob) h r, hx, nd, l => by
    rw [List.append_assoc] at nd
    obtain ⟨n1, n2, n3⟩ := List.nodup_append.mp nd
    obtain ⟨O', r', nd', sub⟩ := r.put (k := k) hx n2 (by simpa using l)
    refine ⟨Oa ++ O', by simpa using EnvR.som h r', ?_, fun a ha => ?_⟩
    · refine List.nodup_append.mpr ⟨n1, nd', fun a ha b hb => ?_⟩
      exact n3 a ha b (List.mem_append.mpr (sub b hb))
    · rcases List.mem_append.mp ha with h | h
      · exact .inl (List.mem_append_left _ h)
      · rcases sub a h with z | z
        · exact .inl (List.mem_append_right _ z)
        · exact .inr z
  | _, _, _, k + 1, _, _, Ox, .non v r, hx, nd, l => by
    obtain ⟨O', r', nd', sub⟩ := r.put (k := k) hx nd (by simpa using l)
    exact ⟨O', by simpa using EnvR.non v r', nd', sub⟩
/-- a slot is emptied (whatever stands in the frame) -/
theorem EnvR.clear : ∀ {e : DEnv} {s : St} {O : List Addr} (k : Nat) (v : Option V), EnvR T Hf H e s O → O.Nodup → ∃ O', EnvR T Hf H (e.set k none) (s.set k v) O' ∧ O'.Nodup ∧ ∀ a ∈ O', a ∈ O
  | _, _, _, _, _, .nil, nd => ⟨[], by simpa using EnvR.nil, nd, fun _ h => h⟩
  | _, _, _, 0, w, .som (O1 := Oa) (O2 := Ob) h r, nd => ⟨Ob, .non w r, (List.nodup_append.mp nd).2.1, fun a ha => List.mem_append_right _ ha⟩
  | _, _, _, 0, w, .non v r, nd => ⟨_, .non w r, nd, fun _ h => h⟩
  | _, _, _, k + 1, w, .som (O1 := Oa) (O2 := Ob) h r, nd => by
    obtain ⟨n1, n2, n3⟩ := List.nodup_append.mp nd
    obtain ⟨O', r', nd', sub⟩ := r.clear k w n2
    refine ⟨Oa ++ O', by simpa using EnvR.som h r', List.nodup_append.mpr ⟨n1, nd', fun a ha b hb => n3 a ha b (sub b hb)⟩, fun a ha => ?_⟩
    rcases List.mem_append.mp ha with h | h
    · exact List.mem_append_left _ h
    · exact List.mem_append_right _ (sub a h)
  | _, _, _, k + 1, w, .non v r, nd => by
    obtain ⟨O', r', nd', sub⟩ := r.clear k w nd
    exact ⟨O', by simpa using EnvR.non v r', nd', sub⟩
end
end DN

set_option Elab.async false
set_option linter.all false
set_option maxRecDepth 100000
set_option maxHeartbeats 4000000
/-! DEN, part 2: the syntax, its embedding into the model's, what it computes on plain values. -/
namespace DN
open PySem PySem.Spec PyProof.Rows L2

/-! ### operations on values -/
def sOk (n : Nat) : Bool := decide (n ≤ sizeLine)
def flatP (xs : List PV) : Bool := xs.all fun x => !x.own
mutual
def PV.toD : PV → Option PyData
  | .non => some .none
  | .bl b => some (.bool b)
  | .int i => some (.int i)
  | .str x => some (.str x)
  | .tup xs => (toDs xs).map .tuple
  | .lst _ xs => (toDs xs).map .list
  | _ => none
def toDs : List PV → Option (List PyData)
  | [] => some []
  | x :: xs => match x.toD, toDs xs with
    | some d, some ds => some (d :: ds)
    | _, _ => none
end
def eqP (a b : PV) : Option Bool := match a.toD, b.toD with
  | some d, some e => if SeqAt.shaped d && SeqAt.shaped e then some (PyData.eqv d e) else none
  | _, _ => none
def mulOk (i j : Int) : Bool := decide (i.natAbs < 2 ^ 63) || decide (j.natAbs < 2 ^ 63) || decide (i.natAbs.log2 + j.natAbs.log2 < 1000000)
def divOk (j : Int) : Bool := decide (0 < j) && decide (j.natAbs.log2 < 9000)
def powOk (i j : Int) : Bool := decide (0 ≤ j) && decide (j ≤ 1000000) && decide (i.natAbs < 2 ^ 64)
def binP : Operator → PV → PV → Option PV
  | .Add, .int i, .int j => some (.int (i + j))
  | .Add, .str x, .str y => if sOk (x.length + y.length) then some (.str (x ++ y)) else none
  | .Add, .lst _ xs, .lst _ ys => if sOk (xs.length + ys.length) && flatP xs && flatP ys then some (.lst true (xs ++ ys)) else none
  | .Add, .tup xs, .tup ys => if sOk (xs.length + ys.length) then some (.tup (xs ++ ys)) else none
  | .Sub, .int i, .int j => some (.int (i - j))
  | .Mult, .int i, .int j => if mulOk i j then some (.int (i * j)) else none
  | .Mult, .lst _ xs, .int k => if decide (-(2 ^ 62) ≤ k) && decide (k < 2 ^ 62) && sOk (xs.length * k.toNat) && flatP xs then some (.lst true (List.replicate k.toNat xs).flatten) else none
  | .FloorDiv, .int i, .int j => if divOk j then some (.int (i / j)) else none
  | .Mod, .int i, .int j => if decide (0 < j) then some (.int (i % j)) else none
  | .Pow, .int i, .int j => if powOk i j then some (.int (i ^ j.toNat)) else none
  | _, _, _ => none
def PV.isNon : PV → Bool
  | .non => true
  | _ => false
def PV.flat : PV → Option V
  | .non => some .non
  | .bl b => some (.bl b)
  | .int i => some (.int i)
  | .str x => some (.str x)
  | _ => none
def flats : List PV → Option (List V)
  | [] => some []
  | x :: xs => match x.flat, flats xs with
    | some v, some vs => some (v :: vs)
    | _, _ => none
def inP (x : PV) (xs : List PV) : Option Bool := match x.flat, flats xs with
  | some v, some vs => some (inV v vs)
  | _, _ => none
def cmpP : CmpOp → PV → PV → Option Bool
  | .Eq, a, b => eqP a b
  | .NotEq, a, b => (eqP a b).map not
  | .Lt, .int i, .int j => some (decide (i < j))
  | .LtE, .int i, .int j => some (decide (i ≤ j))
  | .Gt, .int i, .int j => some (decide (j < i))
  | .GtE, .int i, .int j => some (decide (j ≤ i))
  | .Is, a, .non => some a.isNon
  | .IsNot, a, .non => some (!a.isNon)
  | .In, x, .lst _ xs => inP x xs
  | .In, x, .tup xs => inP x xs
  | .NotIn, x, .lst _ xs => (inP x xs).map not
  | .NotIn, x, .tup xs => (inP x xs).map not
  | _, _, _ => none
def truP : PV → Option Bool
  | .non => some false
  | .bl b => some b
  | .int i => some (i != 0)
  | .lst _ xs => some (!xs.isEmpty)
  | .tup xs => some (!xs.isEmpty)
  | _ => none
inductive F1 | len | list | tuple | sum | int
  deriving DecidableEq
def F1.name : F1 → Str
  | .len => "len" | .list => "list" | .tuple => "tuple" | .sum => "sum" | .int => "int"
def intsP : List PV → Option (List Int)
  | [] => some []
  | .int i :: xs => (intsP xs).map (i :: ·)
  | _ => none
def f1P : F1 → PV → Option PV
  | .len, .lst _ xs => some (.int xs.length)
  | .len, .tup xs => some (.int xs.length)
  | .len, .scr ns => some (.int ns.length)
  | .list, .lst _ xs => if flatP xs then some (.lst true xs) else none
  | .list, .tup xs => some (.lst true xs)
  | .tuple, .lst _ xs => if flatP xs then some (.tup xs) else none
  | .tuple, .tup xs => some (.tup xs)
  | .sum, .lst _ xs => (intsP xs).map fun ns => .int ns.sum
  | .int, .int i => some (.int i)
  | .int, .bl b => some (.int (if b then 1 else 0))
  | _, _ => none
inductive F2 | min | max
  deriving DecidableEq
def F2.name : F2 → Str
  | .min => "min" | .max => "max"
def f2P : F2 → PV → PV → Option PV
  | .min, .int i, .int j => some (.int (if j < i then j else i))
  | .max, .int i, .int j => some (.int (if j > i then j else i))
  | _, _, _ => none
def PV.ty : PV → Option String
  | .non => some "NoneType"
  | .bl _ => some "bool"
  | .int _ => some "int"
  | .str _ => some "str"
  | .tup _ => some "tuple"
  | .lst _ _ => some "list"
  | _ => none
/-- a class that isinstance asks for: a built-in one by its name, an own one by its number -/
inductive CRef | ty (n : String) | own (c : Nat)
def isiP (x : PV) : CRef → Option Bool
  | .ty n => x.ty.bind fun t => kitB t n
  | .own c => match x with
    | .ins _ d _ => if c == d then some true else none
    | _ => none
def isiPs (x : PV) : List CRef → Option Bool
  | [] => some false
  | c :: cs => match isiP x c with
    | some true => some true
    | some false => isiPs x cs
    | none => none

def PV.isOf (c : Nat) : PV → Bool
  | .ins _ d _ => d == c
  | _ => false
/-! ### places -/
def PV.kids : PV → List PV
  | .tup xs => xs
  | .lst _ xs => xs
  | .ins _ _ xs => xs
  | _ => []
def PV.withKid : PV → Nat → PV → PV
  | .tup xs, k, y => .tup (xs.set k y)
  | .lst o xs, k, y => .lst o (xs.set k y)
  | .ins o c xs, k, y => .ins o c (xs.set k y)
  | x, _, _ => x
def getAt : PV → List Nat → Option PV
  | x, [] => some x
  | x, k :: ks => match x.kids[k]? with
    | some y => getAt y ks
    | none => none
def setAt : PV → List Nat → PV → PV
  | _, [], y => y
  | x, k :: ks, y => match x.kids[k]? with
    | some z => x.withKid k (setAt z ks y)
    | none => x
def setLoc (env : DEnv) (i : Nat) (ks : List Nat) (y : PV) : DEnv := match env[i]? with
  | some (some x) => env.set i (some (setAt x ks y))
  | _ => env

/-- a program's names and tables -/
structure Prg where
  /-- attribute names -/
  an : List Str
  /-- a class's fields, by attribute number -/
  cf : List (List Nat)
  /-- class names -/
  cn : List Str
  /-- module constants: name, value -/
  gl : List (Str × PV)
  /-- defs: the name (of those that are called by it), the number of parameters -/
  dn : List Str
  np : List Nat
  /-- is class c (first index) an exception class that clause class d takes -/
  sub : List (List Bool)
  /-- own methods, properties: class, attribute, def -/
  mt : List (Nat × Nat × Nat)
  pt : List (Nat × Nat × Nat)
  /-- how classes are called: class, its __init__'s def, positional arguments, keywords (attribute numbers), defaults that fill up -/
  mks : List (Nat × Nat × Nat × List Nat × List PV)
  /-- how deep a def's calls go -/
  lv : List Nat
def Prg.mkAt (G : Prg) (m : Nat) : Nat × Nat × Nat × List Nat × List PV := G.mks.getD m (0, 0, 0, [], [])

mutual
inductive P where
  | var (i : Nat) (p : Pos)
  | ix (b : P) (k : Qe) (p : Pos)
  | fld (b : P) (f : Nat) (p : Pos)
inductive Qe where
  | int (n : Int) (j : Nat) (p : Pos)
  | bl (b : Bool) (j : Nat) (p : Pos)
  | non (j : Nat) (p : Pos)
  | str (x : Str) (j : Nat) (p : Pos)
  | gl (g : Nat) (p : Pos)
  | rd (b : P)
  | bin (o : Operator) (a b : Qe) (p : Pos)
  | neg (a : Qe) (p : Pos)
  | len (b : P) (pn p : Pos)
  /-- an item of the script -/
  | sci (b : P) (k : Qe) (p : Pos)
end
mutual
def P.emb (G : Prg) (N : List Str) : P → Expr
  | .var i p => .Name (N.getD i "") p
  | .ix b k p => .Subscript (b.emb G N) (k.emb G N) p
  | .fld b f p => .Attribute (b.emb G N) (G.an.getD f "") p
def Qe.emb (G : Prg) (N : List Str) : Qe → Expr
  | .int n j p => .Constant (.int n) j p
  | .bl b j p => .Constant (.bool b) j p
  | .non j p => .Constant .none j p
  | .str x j p => .Constant (.str x) j p
  | .gl g p => .Name (G.gl.getD g ("", .non)).1 p
  | .rd b => b.emb G N
  | .bin o a b p => .BinOp (a.emb G N) o (b.emb G N) p
  | .neg a p => .UnaryOp .USub (a.emb G N) p
  | .len b pn p => .Call (.Name "len" pn) [b.emb G N] [] p
  | .sci b k p => .Subscript (b.emb G N) (k.emb G N) p
end

/-- the place of field f in an instance of class c -/
def fldIx (G : Prg) (c f : Nat) : Option Nat := (G.cf[c]?).bind fun l => l.findIdx? (· == f)
mutual
/-- a place: slot, steps, what stands there -/
def P.loc (G : Prg) (env : DEnv) : P → Option (Nat × List Nat × PV)
  | .var i _ => match env[i]? with
    | some (some x) => some (i, [], x)
    | _ => none
  | .ix b k _ => match b.loc G env with
    | some (i, ks, .lst o xs) => match k.ev G env with
      | some (.int n) => match ixN xs.length n with
        | some j => match xs[j]? with
          | some y => some (i, ks ++ [j], y)
          | none => none
        | none => none
      | _ => none
    | some (i, ks, .tup xs) => match k.ev G env with
      | some (.int n) => match ixN xs.length n with
        | some j => match xs[j]? with
          | some y => some (i, ks ++ [j], y)
          | none => none
        | none => none
      | _ => none
    | _ => none
  | .fld b f _ => match b.loc G env with
    | some (i, ks, .ins o c xs) => match fldIx G c f with
      | some j => match xs[j]? with
        | some y => some (i, ks ++ [j], y)
        | none => none
      | none => none
    | _ => none
def Qe.ev (G : Prg) (env : DEnv) : Qe → Option PV
  | .int n _ _ => some (.int n)
  | .bl b _ _ => some (.bl b)
  | .non _ _ => some .non
  | .str x _ _ => some (.str x)
  | .gl g _ => match G.gl[g]? with
    | some (_, .int n) => some (.int n)
    | _ => none
  | .rd b => match b.loc G env with
    | some (_, _, x) => if x.own then none else some x
    | none => none
  | .bin o a b _ => match a.ev G env, b.ev G env with
    | some (.int i), some (.int j) => binP o (.int i) (.int j)
    | _, _ => none
  | .neg a _ => match a.ev G env with
    | some (.int i) => some (.int (-i))
    | _ => none
  | .len b _ _ => match b.loc G env with
    | some (_, _, .lst _ xs) => some (.int xs.length)
    | some (_, _, .tup xs) => some (.int xs.length)
    | some (_, _, .scr ns) => some (.int ns.length)
    | _ => none
  | .sci b k _ => match b.loc G env, k.ev G env with
    | some (_, _, .scr ns), some (.int n) => (atI ns n).map .int
    | _, _ => none
end

/-! ### expressions -/
/-- a target: a name, or a tuple of names -/
inductive Tg where
  | one (i : Nat) (p : Pos)
  | tup (is : List (Nat × Pos)) (k : Nat) (p : Pos)
mutual
inductive E where
  | q (a : Qe)
  /-- the value of a slot that is not used again -/
  | mv (i : Nat) (p : Pos)
  /-- the value of a slot, frozen from here on -/
  | fz (i : Nat) (p : Pos)
  | bin (o : Operator) (a b : B) (p : Pos)
  | cmp (o : CmpOp) (a b : B) (p : Pos)
  | and (e : E) (es : Es) (p : Pos)
  | or (e : E) (es : Es) (p : Pos)
  | not (a : E) (p : Pos)
  | ife (t : Tt) (a b : E) (p : Pos)
  | f1 (f : F1) (a : B) (pn p : Pos)
  | f2 (f : F2) (a b : E) (pn p : Pos)
  | isi (a : Qe) (c : String) (pn pc p : Pos)
  | isi2 (a : Qe) (c d : String) (k : Nat) (pn pc pd pt p : Pos)
  | isiO (a : Qe) (c : Nat) (pn pc p : Pos)
  | tup (es : Es) (k : Nat) (p : Pos)
  | lst (es : Es) (p : Pos)
  | ixE (e k : E) (p : Pos)
  | call (f : Nat) (as : As) (pn p : Pos)
  /-- m: how the class is called (a row of mks) -/
  | make (m : Nat) (as kas : As) (kn : List (Nat × Pos)) (pn p : Pos)
  | methE (e : E) (m c f : Nat) (as : As) (pa p : Pos)
  | prop (e : E) (m c f : Nat) (p : Pos)
  | pop (b : P) (pa p : Pos)
  | lc (e : E) (tg : Tg) (it : It) (t : Ts) (sc : Scope) (own : List (Str × Nat)) (p : Pos)
inductive B where
  | e (e : E)
  | p (b : P)
inductive Es where
  | nil
  | cons (e : E) (es : Es)
inductive As where
  | nil
  | mv (i : Nat) (p : Pos) (as : As)
  | e (frz : Bool) (e : E) (as : As)
inductive Tt where
  | v (b : B)
  | cmp (o : CmpOp) (a b : B) (p : Pos)
  | not (t : Tt) (p : Pos)
  | and (ts : Ts) (p : Pos)
  | or (ts : Ts) (p : Pos)
inductive Ts where
  | nil
  | cons (t : Tt) (ts : Ts)
inductive It where
  | e (e : E)
  | r1 (a : E) (pn p : Pos)
  | r2 (a b : E) (pn p : Pos)
  | r3 (a b c : E) (pn p : Pos)
  | enum (e : E) (pn p : Pos)
end
def zipKw (G : Prg) : List (Nat × Pos) → List Expr → List Keyword
  | k :: ks, e :: es => ⟨some (G.an.getD k.1 ""), e, k.2⟩ :: zipKw G ks es
  | _, _ => []
def Tg.emb (N : List Str) : Tg → Expr
  | .one i p => .Name (N.getD i "") p
  | .tup is k p => .Tuple (is.map fun x => .Name (N.getD x.1 "") x.2) k p
mutual
def E.emb (G : Prg) (N : List Str) : E → Expr
  | .q a => a.emb G N
  | .mv i p => .Name (N.getD i "") p
  | .fz i p => .Name (N.getD i "") p
  | .bin o a b p => .BinOp (a.emb G N) o (b.emb G N) p
  | .cmp o a b p => .Compare (a.emb G N) [o] [b.emb G N] p
  | .and e es p => .BoolOp .And (e.emb G N :: es.emb G N) p
  | .or e es p => .BoolOp .Or (e.emb G N :: es.emb G N) p
  | .not a p => .UnaryOp .Not (a.emb G N) p
  | .ife t a b p => .IfExp (t.emb G N) (a.emb G N) (b.emb G N) p
  | .f1 f a pn p => .Call (.Name f.name pn) [a.emb G N] [] p
  | .f2 f a b pn p => .Call (.Name f.name pn) [a.emb G N, b.emb G N] [] p
  | .isi a c pn pc p => .Call (.Name "isinstance" pn) [a.emb G N, .Name (Str.ofString c) pc] [] p
  | .isi2 a c d k pn pc pd pt p => .Call (.Name "isinstance" pn) [a.emb G N, .Tuple [.Name (Str.ofString c) pc, .Name (Str.ofString d) pd] k pt] [] p
  | .isiO a c pn pc p => .Call (.Name "isinstance" pn) [a.emb G N, .Name (G.cn.getD c "") pc] [] p
  | .tup es k p => .Tuple (es.emb G N) k p
  | .lst es p => .List (es.emb G N) p
  | .ixE e k p => .Subscript (e.emb G N) (k.emb G N) p
  | .call f as pn p => .Call (.Name (G.dn.getD f "") pn) (as.emb G N) [] p
  | .make m as kas kn pn p => .Call (.Name (G.cn.getD (G.mkAt m).1 "") pn) (as.emb G N) (zipKw G kn (kas.emb G N)) p
  | .methE e m _ _ as pa p => .Call (.Attribute (e.emb G N) (G.an.getD m "") pa) (as.emb G N) [] p
  | .prop e m _ _ p => .Attribute (e.emb G N) (G.an.getD m "") p
  | .pop b pa p => .Call (.Attribute (b.emb G N) "pop" pa) [] [] p
  | .lc e tg it t sc _ p => .ListComp (e.emb G N) [⟨tg.emb N, it.emb G N, t.emb G N, 0⟩] sc p
def B.emb (G : Prg) (N : List Str) : B → Expr
  | .e e => e.emb G N
  | .p b => b.emb G N
def Es.emb (G : Prg) (N : List Str) : Es → List Expr
  | .nil => []
  | .cons e es => e.emb G N :: es.emb G N
def As.emb (G : Prg) (N : List Str) : As → List Expr
  | .nil => []
  | .mv i p as => .Name (N.getD i "") p :: as.emb G N
  | .e _ e as => e.emb G N :: as.emb G N
def Tt.emb (G : Prg) (N : List Str) : Tt → Expr
  | .v b => b.emb G N
  | .cmp o a b p => .Compare (a.emb G N) [o] [b.emb G N] p
  | .not t p => .UnaryOp .Not (t.emb G N) p
  | .and ts p => .BoolOp .And (ts.emb G N) p
  | .or ts p => .BoolOp .Or (ts.emb G N) p
def Ts.emb (G : Prg) (N : List Str) : Ts → List Expr
  | .nil => []
  | .cons t ts => t.emb G N :: ts.emb G N
def It.emb (G : Prg) (N : List Str) : It → Expr
  | .e e => e.emb G N
  | .r1 a pn p => .Call (.Name "range" pn) [a.emb G N] [] p
  | .r2 a b pn p => .Call (.Name "range" pn) [a.emb G N, b.emb G N] [] p
  | .r3 a b c pn p => .Call (.Name "range" pn) [a.emb G N, b.emb G N, c.emb G N] [] p
  | .enum e pn p => .Call (.Name "enumerate" pn) [e.emb G N] [] p
end

/-! ### what an expression computes -/
inductive R (α : Type) where
  | ok (a : α) (env : DEnv)
  | exc (c : Nat) (env : DEnv)
  | bad
/-- what a def hands back: its value, its parameters at the end (none: not known) -/
inductive CR where
  | ok (v : PV) (ps : DEnv)
  | exc (c : Nat) (ps : DEnv)
  | bad
abbrev Fns := Nat → List PV → CR
def R.bind {α β : Type} (r : R α) (f : α → DEnv → R β) : R β := match r with
  | .ok a env => f a env
  | .exc c env => .exc c env
  | .bad => .bad
def R.of {α : Type} (o : Option α) (env : DEnv) : R α := match o with
  | some a => .ok a env
  | none => .bad
def setTup : List (Nat × Pos) → List PV → DEnv → Option DEnv
  | [], [], env => some env
  | (i, _) :: is, x :: xs, env => setTup is xs (env.set i (some x))
  | _, _, _ => none
/-- x (nothing owned in it) goes to the target -/
def Tg.put (x : PV) (env : DEnv) : Tg → Option DEnv
  | .one i _ => if x.own then none else some (env.set i (some x))
  | .tup is _ _ => match x with
    | .tup xs => setTup is xs env
    | _ => none
def wipeE (env : DEnv) : List Nat → DEnv
  | [] => env
  | i :: is => (wipeE env is).set i none
/-- behind a comprehension: its own names' slots hold what they held (if nothing owned) -/
def restE (env0 : DEnv) : List Nat → DEnv → DEnv
  | [], env => env
  | i :: is, env => restE env0 is (env.set i (match env0[i]? with
    | some (some x) => if x.own then none else some x
    | _ => none))
def B.quiet : B → Bool
  | .p _ => true
  | .e (.q _) => true
  | _ => false
def As.app : As → As → As
  | .nil, bs => bs
  | .mv i p as, bs => .mv i p (as.app bs)
  | .e frz x as, bs => .e frz x (as.app bs)
def As.len : As → Nat
  | .nil => 0
  | .mv _ _ as => as.len + 1
  | .e _ _ as => as.len + 1
/-- what stands in the slots goes out into the call -/
def takeOut : As → List (Option PV) → DEnv → Option (List PV × DEnv)
  | .nil, [], env => some ([], env)
  | .mv i _ as, _ :: xs, env => match env[i]? with
    | some (some x) => (takeOut as xs (env.set i none)).map fun r => (x :: r.1, r.2)
    | _ => none
  | .e _ _ as, some x :: xs, env => (takeOut as xs env).map fun r => (x :: r.1, r.2)
  | _, _, _ => none
/-- and comes back -/
def putBack : As → DEnv → DEnv → DEnv
  | .mv i _ as, p :: ps, env => putBack as ps (env.set i p)
  | .e _ _ as, _ :: ps, env => putBack as ps env
  | _, _, env => env
def callR (as : As) (env : DEnv) : CR → R PV
  | .ok v ps => .ok v (putBack as ps env)
  | .exc c ps => .exc c (putBack as ps env)
  | .bad => .bad
def rgOk (i : Int) : Bool := decide (-(2 ^ 62) ≤ i) && decide (i < 2 ^ 62)
def rangeP (lo : Int) (n : Nat) : List PV := (List.range n).map fun k => .int (lo + (k : Nat))
def rangeC (lo c : Int) (n : Nat) : List PV := (List.range n).map fun k => .int (lo + (k : Nat) * c)
def enumFrom (k : Nat) : List PV → List PV
  | [] => []
  | x :: xs => .tup [.int (k : Int), x] :: enumFrom (k + 1) xs
/-- a comprehension's turns -/
def lcRun (own : List Nat) (tg : PV → DEnv → Option DEnv) (tt : DEnv → R Bool) (el : DEnv → R PV) : List PV → List PV → DEnv → R (List PV)
  | [], acc, env => .ok acc env
  | x :: xs, acc, env => match tg x env with
    | none => .bad
    | some env1 => match tt env1 with
      | .ok true env2 => match el env2 with
        | .ok y env3 => if decide (acc.length < sizeLine) then lcRun own tg tt el xs (acc ++ [y]) (wipeE env3 own) else .bad
        | _ => .bad
      | .ok false env2 => lcRun own tg tt el xs acc (wipeE env2 own)
      | _ => .bad
mutual
def E.ev (G : Prg) (F : Fns) : E → DEnv → R PV
  | .q a, env => R.of (a.ev G env) env
  | .mv i _, env => match env[i]? with
    | some (some x) => .ok x (env.set i none)
    | _ => .bad
  | .fz i _, env => match env[i]? with
    | some (some x) => .ok x.frz (env.set i (some x.frz))
    | _ => .bad
  | .bin o a b _, env => (a.ev G F env).bind fun x env => (b.ev G F env).bind fun y env => R.of (binP o x y) env
  | .cmp o a b _, env => (a.ev G F env).bind fun x env => (b.ev G F env).bind fun y env => R.of ((cmpP o x y).map .bl) env
  | .and e es _, env => (e.ev G F env).bind fun x env => es.evAnd G F x env
  | .or e es _, env => (e.ev G F env).bind fun x env => es.evOr G F x env
  | .not a _, env => (a.ev G F env).bind fun x env => match x with
    | .bl b => .ok (.bl (!b)) env
    | _ => .bad
  | .ife t a b _, env => (t.ev G F env).bind fun c env => if c then a.ev G F env else b.ev G F env
  | .f1 f a _ _, env => (a.ev G F env).bind fun x env => R.of (f1P f x) env
  | .f2 f a b _ _, env => (a.ev G F env).bind fun x env => (b.ev G F env).bind fun y env => R.of (f2P f x y) env
  | .isi a c _ _ _, env => R.of ((a.ev G env).bind fun x => (isiP x (.ty c)).map .bl) env
  | .isi2 a c d _ _ _ _ _ _, env => R.of ((a.ev G env).bind fun x => (isiPs x [.ty c, .ty d]).map .bl) env
  | .isiO a c _ _ _, env => R.of ((a.ev G env).bind fun x => (isiP x (.own c)).map .bl) env
  | .tup es _ _, env => (es.ev G F env).bind fun xs env => if flatP xs && sOk xs.length then .ok (.tup xs) env else .bad
  | .lst es _, env => (es.ev G F env).bind fun xs env => if sOk xs.length then .ok (.lst true xs) env else .bad
  | .ixE e k _, env => (e.ev G F env).bind fun x env => (k.ev G F env).bind fun i env => match x, i with
    | .lst _ xs, .int n => match atI xs n with
      | some y => if y.own then .bad else .ok y env
      | none => .bad
    | .tup xs, .int n => R.of (atI xs n) env
    | _, _ => .bad
  | .call f as _ _, env => (as.ev G F env).bind fun xs env => match takeOut as xs env with
    | some (ys, env) => callR as env (F f ys)
    | none => .bad
  | .make m as kas _ _ _, env => (as.ev G F env).bind fun xs env => (kas.ev G F env).bind fun zs env => match takeOut (as.app kas) (xs ++ zs) env with
    | some (ys, env) => match F (G.mkAt m).2.1 (.ins true (G.mkAt m).1 [] :: (ys ++ (G.mkAt m).2.2.2.2)) with
      | .ok .non (some x :: ps) => .ok x (putBack (as.app kas) ps env)
      | .exc d (_ :: ps) => .exc d (putBack (as.app kas) ps env)
      | _ => .bad
    | none => .bad
  | .methE e _ c f as _ _, env => (e.ev G F env).bind fun x env => if x.isOf c then (as.ev G F env).bind fun xs env => match takeOut as xs env with
      | some (ys, env) => match F f (x :: ys) with
        | .ok v (_ :: ps) => .ok v (putBack as ps env)
        | .exc d (_ :: ps) => .exc d (putBack as ps env)
        | _ => .bad
      | none => .bad
    else .bad
  | .prop e _ c f _, env => (e.ev G F env).bind fun x env => if x.isOf c then match F f [x] with
      | .ok v _ => .ok v env
      | _ => .bad
    else .bad
  | .pop b _ _, env => match b.loc G env with
    | some (i, ks, .lst true xs) => match xs[xs.length - 1]? with
      | some y => if y.own then .bad else .ok y (setLoc env i ks (.lst true xs.dropLast))
      | none => .bad
    | _ => .bad
  | .lc e tg it t _ own _, env0 => (it.ev G F env0).bind fun xs env =>
    (lcRun (own.map (·.2)) (fun x env => tg.put x env) (fun env => t.evAll G F env) (fun env => e.ev G F env) xs [] (wipeE env (own.map (·.2)))).bind fun ys env' =>
      .ok (.lst true ys) (restE env (own.map (·.2)) env')
def B.ev (G : Prg) (F : Fns) : B → DEnv → R PV
  | .e e, env => e.ev G F env
  | .p b, env => match b.loc G env with
    | some (_, _, x) => .ok x env
    | none => .bad
def Es.ev (G : Prg) (F : Fns) : Es → DEnv → R (List PV)
  | .nil, env => .ok [] env
  | .cons e es, env => (e.ev G F env).bind fun x env => (es.ev G F env).bind fun xs env => .ok (x :: xs) env
def Es.evAnd (G : Prg) (F : Fns) : Es → PV → DEnv → R PV
  | .nil, x, env => .ok x env
  | .cons e es, x, env => match x with
    | .bl true => (e.ev G F env).bind fun y env => es.evAnd G F y env
    | .bl false => .ok (.bl false) env
    | _ => .bad
def Es.evOr (G : Prg) (F : Fns) : Es → PV → DEnv → R PV
  | .nil, x, env => .ok x env
  | .cons e es, x, env => match x with
    | .bl true => .ok (.bl true) env
    | .bl false => (e.ev G F env).bind fun y env => es.evOr G F y env
    | _ => .bad
/-- a call's arguments; what is handed over by its slot is taken later -/
def As.ev (G : Prg) (F : Fns) : As → DEnv → R (List (Option PV))
  | .nil, env => .ok [] env
  | .mv i _ as, env => match env[i]? with
    | some (some _) => (as.ev G F env).bind fun xs env => .ok (none :: xs) env
    | _ => .bad
  | .e frz e as, env => (e.ev G F env).bind fun x env => (as.ev G F env).bind fun xs env => .ok (some (if frz then x.frz else x) :: xs) env
def Tt.ev (G : Prg) (F : Fns) : Tt → DEnv → R Bool
  | .v b, env => (b.ev G F env).bind fun x env => R.of (truP x) env
  | .cmp o a b _, env => (a.ev G F env).bind fun x env => (b.ev G F env).bind fun y env => R.of (cmpP o x y) env
  | .not t _, env => (t.ev G F env).bind fun c env => .ok (!c) env
  | .and ts _, env => ts.evAll G F env
  | .or ts _, env => ts.evAny G F env
def Ts.evAll (G : Prg) (F : Fns) : Ts → DEnv → R Bool
  | .nil, env => .ok true env
  | .cons t ts, env => (t.ev G F env).bind fun c env => if c then ts.evAll G F env else .ok false env
def Ts.evAny (G : Prg) (F : Fns) : Ts → DEnv → R Bool
  | .nil, env => .ok false env
  | .cons t ts, env => (t.ev G F env).bind fun c env => if c then .ok true env else ts.evAny G F env
/-- what a loop walks: its items, nothing owned in them -/
def It.ev (G : Prg) (F : Fns) : It → DEnv → R (List PV)
  | .e e, env => (e.ev G F env).bind fun x env => match x with
    | .lst _ xs => .ok (frzs xs) env
    | .tup xs => .ok xs env
    | _ => .bad
  | .r1 a _ _, env => (a.ev G F env).bind fun x env => match x with
    | .int n => if rgOk n then .ok (rangeP 0 n.toNat) env else .bad
    | _ => .bad
  | .r2 a b _ _, env => (a.ev G F env).bind fun x env => (b.ev G F env).bind fun y env => match x, y with
    | .int i, .int j => if rgOk i && rgOk j then .ok (rangeP i (j - i).toNat) env else .bad
    | _, _ => .bad
  | .r3 a b c _ _, env => (a.ev G F env).bind fun x env => (b.ev G F env).bind fun y env => (c.ev G F env).bind fun z env => match x, y, z with
    | .int i, .int j, .int (-1) => if rgOk i && rgOk j then .ok (rangeC i (-1) (i - j).toNat) env else .bad
    | _, _, _ => .bad
  | .enum e _ _, env => (e.ev G F env).bind fun x env => match x with
    | .lst _ xs => .ok (enumFrom 0 (frzs xs)) env
    | .tup xs => .ok (enumFrom 0 xs) env
    | _ => .bad
end
end DN

set_option Elab.async false
set_option linter.all false
set_option maxRecDepth 100000
set_option maxHeartbeats 4000000
/-! DEN, part 3: places and quiet expressions are sound. -/
namespace DN
open PySem PySem.Spec PyProof.Rows L2

/-! ### the state -/
structure ST (T : CTab) (σ : St) (H Hf : Hp) (env : DEnv) (O : List Addr) : Prop where
  rep : EnvR T Hf H env σ O
  nd : O.Nodup
  sub : Same Hf H
  dis : ∀ a ∈ O, Hf a = none
/-- from a state to a later one; O': what is owned then -/
structure Nxt (H Hf : Hp) (O : List Addr) (H' Hf' : Hp) (O' : List Addr) : Prop where
  sf : Same Hf Hf'
  fr : ∀ b o, b ∉ O → H b = some o → H' b = some o
  new : ∀ a ∈ O', a ∈ O ∨ H a = none
  fz : ∀ a, Hf' a ≠ none → Hf a ≠ none ∨ a ∈ O ∨ H a = none
theorem Nxt.refl (H Hf : Hp) (O : List Addr) : Nxt H Hf O H Hf O := ⟨Same.refl _, fun _ _ _ h => h, fun _ h => .inl h, fun _ h => .inl h⟩
theorem Nxt.weak {H Hf H' Hf' : Hp} {O O' O2 : List Addr} (n : Nxt H Hf O H' Hf' O') (h : ∀ a ∈ O2, a ∈ O') : Nxt H Hf O H' Hf' O2 := ⟨n.sf, n.fr, fun a ha => n.new a (h a ha), n.fz⟩
theorem Nxt.trans {H Hf H1 Hf1 H2 Hf2 : Hp} {O O1 O2 : List Addr} (a : Nxt H Hf O H1 Hf1 O1) (b : Nxt H1 Hf1 O1 H2 Hf2 O2) : Nxt H Hf O H2 Hf2 O2 where
  sf := a.sf.trans b.sf
  fr := fun c o hc h => b.fr c o (fun z => (a.new c z).elim hc fun e => by rw [h] at e; cases e) (a.fr c o hc h)
  new := fun c hc => by
    rcases b.new c hc with h | h
    · exact a.new c h
    · by_cases z : c ∈ O
      · exact .inl z
      · right
        cases e : H c with
        | none => rfl
        | some o => rw [a.fr c o z e] at h; cases h
  fz := fun c hc => by
    rcases b.fz c hc with h | h | h
    · exact a.fz c h
    · rcases a.new c h with z | z
      · exact .inr (.inl z)
      · exact .inr (.inr z)
    · by_cases z : c ∈ O
      · exact .inr (.inl z)
      · right; right
        cases e : H c with
        | none => rfl
        | some o => rw [a.fr c o z e] at h; cases h
/-- temporaries that stand beside the slots: carried over -/
theorem Nxt.keep {T : CTab} {H Hf H1 Hf1 : Hp} {O O1 Ox : List Addr} {x : PV} {v : V} (n : Nxt H Hf O H1 Hf1 O1) (r : Rep T Hf H x v Ox) (nd : (O ++ Ox).Nodup) : Rep T Hf1 H1 x v Ox :=
  r.move n.sf fun a ha => by
    obtain ⟨o, e⟩ := r.there a ha
    rw [e]
    exact n.fr a o (fun z => (List.nodup_append.mp nd).2.2 a z a ha rfl) e
theorem Nxt.keeps {T : CTab} {H Hf H1 Hf1 : Hp} {O O1 Ox : List Addr} {x : List PV} {v : List V} (n : Nxt H Hf O H1 Hf1 O1) (r : Reps T Hf H x v Ox) (nd : (O ++ Ox).Nodup) : Reps T Hf1 H1 x v Ox :=
  r.move n.sf fun a ha => by
    obtain ⟨o, e⟩ := r.there a ha
    rw [e]
    exact n.fr a o (fun z => (List.nodup_append.mp nd).2.2 a z a ha rfl) e

section
variable {T : CTab} {Hf H Hf' H' : Hp}
/-- how a container lies in the heap -/
def HOof (T : CTab) (x : PV) (vs : List V) (dx : Addr) : HO := match x with
  | .lst _ _ => .lst vs
  | .tup _ => .tup vs
  | .ins _ c _ => .ins (T.adr c) dx (zipF T c vs)
  | _ => .lst vs
/-- an item of a container -/
theorem Rep.kid {x y : PV} {v : V} {O : List Addr} {j : Nat} (r : Rep T Hf H x v O) (s : Same Hf H) (e : x.kids[j]? = some y) :
    ∃ a dx vs w O1 Om O2, v = .ref a ∧ H a = some (HOof T x vs dx) ∧ x.kids.length = vs.length ∧ vs[j]? = some w ∧ O = O1 ++ (Om ++ O2) ∧ Rep T Hf H y w Om ∧
      ∀ {Hf' H' : Hp} {y' : PV} {Om' : List Addr}, Same Hf Hf' → (∀ a, a ∈ O1 ∨ a ∈ O2 → H' a = H a) → (y.own = true ∨ Om' = []) → Rep T Hf' H' y' w Om' → Rep T Hf' H' (x.withKid j y') v (O1 ++ (Om' ++ O2)) := by
  have nil3 : ∀ {O1 Om O2 : List Addr}, [] = O1 ++ (Om ++ O2) → O1 = [] ∧ Om = [] ∧ O2 = [] := fun h => by
    obtain ⟨a, b⟩ := List.append_eq_nil_iff.mp h.symm
    exact ⟨a, List.append_eq_nil_iff.mp b⟩
  have ownNil : ∀ {y : PV} {w : V}, Rep T Hf H y w [] → y.own = true → False := fun r h => by
    generalize hO : ([] : List Addr) = O at r
    cases r <;> first | (cases h; done) | (cases hO; done)
  cases r with
  | @lstO a xs vs O h r =>
    obtain ⟨w, O1, Om, O2, e1, e2, e3, p⟩ := r.focus e
    subst e2
    refine ⟨a, a, vs, w, a :: O1, Om, O2, rfl, h, r.len, e1, rfl, e3, fun s' k _ hy => ?_⟩
    have z := p s' (fun b hb => k b (hb.imp (List.mem_cons_of_mem _) id)) hy
    rw [List.set_getElem?_self' e1] at z
    exact .lstO ((k a (.inl List.mem_cons_self)).trans h) z
  | @lstF a xs vs h r =>
    obtain ⟨w, O1, Om, O2, e1, e2, e3, p⟩ := r.focus e
    obtain ⟨z1, z2, z3⟩ := nil3 e2
    subst z1 z2 z3
    refine ⟨a, a, vs, w, [], [], [], rfl, s _ _ h, r.len, e1, rfl, e3, fun s' k ow hy => ?_⟩
    rcases ow with ow | ow
    · exact (ownNil e3 ow).elim
    · subst ow
      have z := p s' (fun b hb => hb.elim (fun q => nomatch q) fun q => nomatch q) hy
      rw [List.set_getElem?_self' e1] at z
      exact .lstF (s' _ _ h) z
  | @tup a xs vs h r =>
    obtain ⟨w, O1, Om, O2, e1, e2, e3, p⟩ := r.focus e
    obtain ⟨z1, z2, z3⟩ := nil3 e2
    subst z1 z2 z3
    refine ⟨a, a, vs, w, [], [], [], rfl, s _ _ h, r.len, e1, rfl, e3, fun s' k ow hy => ?_⟩
    rcases ow with ow | ow
    · exact (ownNil e3 ow).elim
    · subst ow
      have z := p s' (fun b hb => hb.elim (fun q => nomatch q) fun q => nomatch q) hy
      rw [List.set_getElem?_self' e1] at z
      exact .tup (s' _ _ h) z
  | @insO a dx c xs vs O h l r =>
    obtain ⟨w, O1, Om, O2, e1, e2, e3, p⟩ := r.focus e
    subst e2
    refine ⟨a, dx, vs, w, a :: O1, Om, O2, rfl, h, r.len, e1, rfl, e3, fun s' k _ hy => ?_⟩
    have z := p s' (fun b hb => k b (hb.imp (List.mem_cons_of_mem _) id)) hy
    rw [List.set_getElem?_self' e1] at z
    exact .insO ((k a (.inl List.mem_cons_self)).trans h) l z
  | @insF a dx c xs vs h l r =>
    obtain ⟨w, O1, Om, O2, e1, e2, e3, p⟩ := r.focus e
    obtain ⟨z1, z2, z3⟩ := nil3 e2
    subst z1 z2 z3
    refine ⟨a, dx, vs, w, [], [], [], rfl, s _ _ h, r.len, e1, rfl, e3, fun s' k ow hy => ?_⟩
    rcases ow with ow | ow
    · exact (ownNil e3 ow).elim
    · subst ow
      have z := p s' (fun b hb => hb.elim (fun q => nomatch q) fun q => nomatch q) hy
      rw [List.set_getElem?_self' e1] at z
      exact .insF (s' _ _ h) l z
  | _ => cases e
where
  List.set_getElem?_self' {α : Type} {l : List α} {k : Nat} {x : α} (h : l[k]? = some x) : l.set k x = l := by
    apply List.ext_getElem?
    intro i
    rw [List.getElem?_set]
    by_cases hk : k = i
    · subst hk
      obtain ⟨hl, e⟩ := List.getElem?_eq_some_iff.mp h
      rw [if_pos rfl, if_pos hl, h]
    · rw [if_neg hk]

/-! ### a place in the slots -/
structure Foc (T : CTab) (Hf H : Hp) (env : DEnv) (σ : St) (O : List Addr) (i : Nat) (ks : List Nat) (x : PV) (v : V) : Prop where
  var : ks = [] → σ[i]? = some (some v)
  ex : ∃ O1 Om O2, O = O1 ++ (Om ++ O2) ∧ Rep T Hf H x v Om ∧
    ∀ {Hf' H' : Hp} {x' : PV} {Om' : List Addr}, Same Hf Hf' → (∀ a, a ∈ O1 ∨ a ∈ O2 → H' a = H a) → (x.own = true ∨ Om' = []) → Rep T Hf' H' x' v Om' → EnvR T Hf' H' (setLoc env i ks x') σ (O1 ++ (Om' ++ O2))
theorem Foc.slot {env : DEnv} {σ : St} {O : List Addr} {i : Nat} {x : PV} (r : EnvR T Hf H env σ O) (e : env[i]? = some (some x)) : ∃ v, Foc T Hf H env σ O i [] x v := by
  obtain ⟨v, O1, Om, O2, e1, e2, e3, p, _⟩ := r.focus e
  refine ⟨v, ⟨fun _ => e1, O1, Om, O2, e2, e3, fun s k _ h => ?_⟩⟩
  have z := p s k h
  rw [Rep.kid.List.set_getElem?_self' e1] at z
  unfold setLoc
  rw [e]
  exact z
theorem getAt_snoc : ∀ (ks : List Nat) (x y z : PV) (j : Nat), getAt x ks = some y → y.kids[j]? = some z → getAt x (ks ++ [j]) = some z
  | [], x, y, z, j, h, e => by
    cases h
    show (match x.kids[j]? with | some y => getAt y [] | none => none) = some z
    rw [e]
    rfl
  | k :: ks, x, y, z, j, h, e => by
    show (match x.kids[k]? with | some y => getAt y (ks ++ [j]) | none => none) = some z
    have h' : (match x.kids[k]? with | some y => getAt y ks | none => none) = some y := h
    cases q : x.kids[k]? with
    | none => rw [q] at h'; cases h'
    | some w =>
      rw [q] at h'
      exact getAt_snoc ks w y z j h' e
theorem setAt_snoc : ∀ (ks : List Nat) (x y z w : PV) (j : Nat), getAt x ks = some y → y.kids[j]? = some z → setAt x (ks ++ [j]) w = setAt x ks (y.withKid j w)
  | [], x, y, z, w, j, h, e => by
    cases h
    show (match x.kids[j]? with | some z => x.withKid j (setAt z [] w) | none => x) = _
    rw [e]
    rfl
  | k :: ks, x, y, z, w, j, h, e => by
    have h' : (match x.kids[k]? with | some y => getAt y ks | none => none) = some y := h
    show (match x.kids[k]? with | some q => x.withKid k (setAt q (ks ++ [j]) w) | none => x) = (match x.kids[k]? with | some q => x.withKid k (setAt q ks (y.withKid j w)) | none => x)
    cases q : x.kids[k]? with
    | none => rfl
    | some u =>
      rw [q] at h'
      show x.withKid k _ = x.withKid k _
      rw [setAt_snoc ks u y z w j h' e]
/-- what stands at a place -/
def stands (env : DEnv) (i : Nat) (ks : List Nat) (x : PV) : Prop := ∃ z, env[i]? = some (some z) ∧ getAt z ks = some x
theorem Foc.kid {env : DEnv} {σ : St} {O : List Addr} {i j : Nat} {ks : List Nat} {x y : PV} {v : V} (f : Foc T Hf H env σ O i ks x v) (st : stands env i ks x) (s : Same Hf H) (e : x.kids[j]? = some y) :
    ∃ a dx vs w, v = .ref a ∧ H a = some (HOof T x vs dx) ∧ x.kids.length = vs.length ∧ vs[j]? = some w ∧ Foc T Hf H env σ O i (ks ++ [j]) y w := by
  obtain ⟨O1, Om, O2, e1, e2, p⟩ := f.ex
  obtain ⟨a, dx, vs, w, P1, Pm, P2, f1, f2, f3, f4, f5, f6, q⟩ := e2.kid s e
  refine ⟨a, dx, vs, w, f1, f2, f3, f4, ⟨fun z => by simp at z, O1 ++ P1, Pm, P2 ++ O2, ?_, f6, fun {Hf' H' x' Om'} s' k ow h => ?_⟩⟩
  · rw [e1, f5]; simp
  · have z := q s' (fun b hb => k b (hb.imp (List.mem_append_right _) (List.mem_append_left _))) ow h
    have ow' : x.own = true ∨ P1 ++ (Om' ++ P2) = [] := by
      by_cases hx : x.own = true
      · exact .inl hx
      · right
        have hOm : Om = [] := e2.notOwn (by simpa using hx)
        rw [hOm] at f5
        obtain ⟨z1, z2⟩ := List.append_eq_nil_iff.mp f5.symm
        obtain ⟨z2, z3⟩ := List.append_eq_nil_iff.mp z2
        subst z1 z2 z3
        rcases ow with ow | ow
        · cases f6 <;> cases ow
        · subst ow; rfl
    have zz := p s' (fun b hb => k b (hb.imp (List.mem_append_left _) (List.mem_append_right _))) ow' z
    obtain ⟨u, g1, g2⟩ := st
    have e3 : setLoc env i (ks ++ [j]) x' = setLoc env i ks (x.withKid j x') := by
      unfold setLoc
      rw [g1]
      show env.set i _ = env.set i _
      rw [setAt_snoc ks u x y x' j g2 e]
    rw [e3]
    simpa using zz
theorem stands.kid {env : DEnv} {i j : Nat} {ks : List Nat} {x y : PV} (st : stands env i ks x) (e : x.kids[j]? = some y) : stands env i (ks ++ [j]) y := by
  obtain ⟨u, g1, g2⟩ := st
  exact ⟨u, g1, getAt_snoc ks u x y j g2 e⟩
end

/-! ### static checks -/
def visB (sc : Scope) (x : Str) : Bool := (match sc.names.lookup x with
  | some .local => true
  | some .cell => true
  | some .free => true
  | _ => false) && !(x == ("__debug__" : Str)) && !(x == ("__classdict__" : Str))
def glB (sc : Scope) (x : Str) : Bool := (sc.names.lookup x == some .globalImplicit) && !(x == ("__debug__" : Str))
def nameAt (N : List Str) (sc : Scope) (i : Nat) : Bool := match N[i]? with
  | some x => visB sc x
  | none => false
mutual
def P.wf (G : Prg) (N : List Str) (sc : Scope) : P → Bool
  | .var i _ => nameAt N sc i
  | .ix b k _ => b.wf G N sc && k.wf G N sc
  | .fld b f _ => b.wf G N sc && decide (f < G.an.length)
def Qe.wf (G : Prg) (N : List Str) (sc : Scope) : Qe → Bool
  | .gl g _ => glB sc (G.gl.getD g ("", .non)).1
  | .rd b => b.wf G N sc
  | .bin _ a b _ => a.wf G N sc && b.wf G N sc
  | .neg a _ => a.wf G N sc
  | .len b _ _ => b.wf G N sc && glB sc "len"
  | .sci b k _ => b.wf G N sc && k.wf G N sc
  | _ => true
end
/-- built-in names that the embedding speaks of -/
def biNames : List Str := ["len", "list", "tuple", "sum", "int", "min", "max", "isinstance", "range", "enumerate", "bool", "str", "dict"]
/-- the facts of a program's top -/
structure TopF (T : CTab) (G : Prg) (mg : Str → Option Value) : Prop where
  gl : ∀ (g : Nat) (x : Str) (n : Int), G.gl[g]? = some (x, PV.int n) → ∃ t, mg x = some (Value.int n t)
  bi : ∀ x ∈ biNames, mg x = none
  an : G.an.Nodup
  fld : ∀ (c : Nat) (l : List Nat), G.cf[c]? = some l → T.fld c = l.map fun f => G.an.getD f ""
  cl : ∀ (c : Nat) (l : List Nat) (f : Nat), G.cf[c]? = some l → f ∈ l → Cls T.K (T.adr c)
  na : ∀ (c : Nat) (l : List Nat) (f : Nat), G.cf[c]? = some l → f ∈ l → NoAttr T.K (T.adr c) (G.an.getD f "") ∧ f < G.an.length
  nd : ∀ (c : Nat) (l : List Nat), G.cf[c]? = some l → l.Nodup
/-- the facts of the code that runs -/
structure XC (T : CTab) (G : Prg) (N : List Str) (sc : Scope) (X : Cx) : Prop where
  eN : X.N = N
  nd : N.Nodup
  sc : X.env.scope = sc
  K : X.K = T.K
  calm : X.calm = true
  top : TopF T G X.mg
  un : X.A.units + 64 < cLine

theorem visB_vis {sc : Scope} {x : Str} (h : visB sc x = true) : Vis sc x ∧ (x == ("__debug__" : Str)) = false ∧ (x == ("__classdict__" : Str)) = false := by
  unfold visB at h
  rw [Bool.and_eq_true, Bool.and_eq_true] at h
  obtain ⟨⟨h1, h2⟩, h3⟩ := h
  refine ⟨?_, by simpa using h2, by simpa using h3⟩
  unfold Vis
  revert h1
  split <;> intro h1
  · rename_i e; exact .inl e
  · rename_i e; exact .inr (.inl e)
  · rename_i e; exact .inr (.inr e)
  · cases h1
theorem glB_gl {X : Cx} {sc : Scope} {x : Str} (e : X.env.scope = sc) (h : glB sc x = true) : Gl X x ∧ (x == ("__debug__" : Str)) = false := by
  unfold glB at h
  rw [Bool.and_eq_true] at h
  refine ⟨?_, by simpa using h.2⟩
  unfold Gl Env.kindOf
  rw [e]
  simpa using h.1

/-! ### side conditions of the rules, by the expression's head -/
section
variable (G : Prg) (N : List Str)
theorem P.head : ∀ b : P, (∃ x p, b.emb G N = .Name x p) ∨ (∃ e k p, b.emb G N = .Subscript e k p) ∨ ∃ e x p, b.emb G N = .Attribute e x p
  | .var i p => .inl ⟨_, _, rfl⟩
  | .ix b k p => .inr (.inl ⟨_, _, _, rfl⟩)
  | .fld b f p => .inr (.inr ⟨_, _, _, rfl⟩)
/-- heads that are plain: no star, no slice, no comprehension, no set display -/
def plainHd : Expr → Bool
  | .Starred .. => false
  | .Slice .. => false
  | .ListComp .. => false
  | .SetComp .. => false
  | .DictComp .. => false
  | .Set .. => false
  | .Dict .. => false
  | _ => true
theorem P.plain (b : P) : plainHd (b.emb G N) = true := by
  rcases b.head G N with ⟨_, _, e⟩ | ⟨_, _, _, e⟩ | ⟨_, _, _, e⟩ <;> rw [e] <;> rfl
theorem Qe.plain (k : Qe) : plainHd (k.emb G N) = true := by
  cases k with
  | rd b => exact b.plain G N
  | _ => rfl
end
theorem plain_ix {b : Expr} (h : plainHd b = true) : PlainIx b := by
  intro o i
  cases b <;> first | rfl | cases h
theorem plain_star {e : Expr} {es : List Expr} {env : Env} (h : plainHd e = true) : starEach (e :: es) env = (false, eval e env) :: starEach es env := by
  cases e <;> first | rfl | cases h
theorem attr_base {e : Expr} {f : Str} {env : Env} {w : Sem Value} (h : ∀ id pos p, e ≠ .Call (.Name id p) [] [] pos) : attributeBase e f env w = w := by
  unfold attributeBase
  split
  · rename_i id p pos
    exact absurd rfl (h id pos p)
  · rfl

/-! ### readings -/
def rdP (T : CTab) (G : Prg) (b : P) : TE := fun σ H Q => ∃ Hf env O, ST T σ H Hf env O ∧ ∃ i ks x, b.loc G env = some (i, ks, x) ∧ ∀ v, stands env i ks x → Foc T Hf H env σ O i ks x v → Q v H
def rdQ (T : CTab) (G : Prg) (k : Qe) : TE := fun σ H Q => ∃ Hf env O, ST T σ H Hf env O ∧ ∃ x, k.ev G env = some x ∧ ∀ v, Rep T Hf H x v [] → Q v H
theorem PE.imp {X : Cx} {e : Expr} {t t' : TE} (h : PE X e t) (i : ∀ σ H Q, t' σ H Q → t σ H Q) : PE X e t' := ⟨fun pins s σ H Q I q => h.run pins s σ H Q I (i σ H Q q)⟩

theorem zip_lookup : ∀ {ns : List Str} {vs : List V} {j : Nat} {n : Str} {w : V}, ns.Nodup → ns[j]? = some n → vs[j]? = some w → (ns.zip vs).lookup n = some w
  | m :: ns, u :: vs, 0, n, w, _, e1, e2 => by
    cases e1; cases e2
    simp [List.lookup_cons]
  | m :: ns, u :: vs, j + 1, n, w, nd, e1, e2 => by
    have e1' : ns[j]? = some n := by simpa using e1
    have e2' : vs[j]? = some w := by simpa using e2
    have nd' := List.nodup_cons.mp nd
    rw [List.zip_cons_cons, List.lookup_cons]
    have ne : (n == m) = false := by
      rw [beq_eq_false_iff_ne]
      intro z
      subst z
      exact nd'.1 (List.mem_of_getElem? e1')
    rw [ne]
    exact zip_lookup nd'.2 e1' e2'
  | [], _, _, _, _, _, e1, _ => by simp at e1
  | _ :: _, [], _, _, _, _, _, e2 => by simp at e2
theorem nodup_map_on {α β : Type} {f : α → β} : ∀ {l : List α}, (∀ x ∈ l, ∀ y ∈ l, f x = f y → x = y) → l.Nodup → (l.map f).Nodup
  | [], _, _ => List.nodup_nil
  | a :: l, h, nd => by
    have nd' := List.nodup_cons.mp nd
    rw [List.map_cons, List.nodup_cons]
    refine ⟨fun hm => ?_, nodup_map_on (fun x hx y hy => h x (List.mem_cons_of_mem _ hx) y (List.mem_cons_of_mem _ hy)) nd'.2⟩
    obtain ⟨b, hb, e⟩ := List.mem_map.mp hm
    have := h b (List.mem_cons_of_mem _ hb) a List.mem_cons_self e
    subst this
    exact nd'.1 hb
theorem TopF.fldND {T : CTab} {G : Prg} {mg : Str → Option Value} (t : TopF T G mg) {c : Nat} {l : List Nat} (e : G.cf[c]? = some l) : (T.fld c).Nodup := by
  rw [t.fld c l e]
  refine nodup_map_on ?_ (t.nd c l e)
  intro x hx y hy h
  have hx' := (t.na c l x e hx).2
  have hy' := (t.na c l y e hy).2
  simp only [List.getD_eq_getElem?_getD, List.getElem?_eq_getElem hx', List.getElem?_eq_getElem hy', Option.getD_some] at h
  exact (List.getElem_inj t.an).mp h
/-- a field's place and its value -/
theorem fld_look {T : CTab} {G : Prg} {mg : Str → Option Value} (t : TopF T G mg) {c f j : Nat} {vs : List V} {w : V} (e : fldIx G c f = some j) (hw : vs[j]? = some w) :
    ∃ l, G.cf[c]? = some l ∧ f ∈ l ∧ (zipF T c vs).lookup (G.an.getD f "") = some w ∧ (T.fld c)[j]? = some (G.an.getD f "") := by
  unfold fldIx at e
  cases q : G.cf[c]? with
  | none => rw [q] at e; cases e
  | some l =>
    rw [q] at e
    have e' : l.findIdx? (· == f) = some j := e
    obtain ⟨hj, h1, _⟩ := List.findIdx?_eq_some_iff_getElem.mp e'
    have hf : l[j] = f := by simpa using h1
    have hlj : l[j]? = some f := by rw [List.getElem?_eq_getElem hj, hf]
    have hT : (T.fld c)[j]? = some (G.an.getD f "") := by
      rw [t.fld c l q, List.getElem?_map, hlj]
      rfl
    refine ⟨l, rfl, List.mem_of_getElem? hlj, ?_, hT⟩
    exact zip_lookup (t.fldND q) hT hw

section
variable {T : CTab} {G : Prg} {N : List Str} {sc : Scope} {X : Cx}
theorem PE.cast {e e' : Expr} {t : TE} (h : PE X e t) (q : e = e') : PE X e' t := q ▸ h
theorem pe_len {e : Expr} {te : TE} {pn p : Pos} (C : XC T G N sc X) (hg : glB sc "len" = true) (he : PE X e te) (hp : plainHd e = true) :
    PE X (.Call (.Name "len" pn) [e] [] p) (tCB (fun xs H Q => ∃ x n, xs = [x] ∧ LenV X.K x H n ∧ Q (.int n) H) (tCons te tNil)) :=
  pe_callB call_len (glB_gl C.sc hg).1 (C.top.bi _ (by decide)) PySem.boot_len (pa_cons he pa_nil (plain_star hp)) (by decide) (by decide) (plain_star hp) rfl
end
end DN

set_option Elab.async false
set_option linter.all false
set_option maxRecDepth 100000
set_option maxHeartbeats 4000000
/-! DEN, part 4: soundness of places and quiet expressions; operations on values. -/
namespace DN
open PySem PySem.Spec PyProof.Rows L2
section
variable {T : CTab} {G : Prg} {N : List Str} {sc : Scope} {X : Cx}
/-- a place's head is no call -/
theorem P.nocall (G : Prg) (N : List Str) (b : P) : ∀ id pos p, b.emb G N ≠ .Call (.Name id p) [] [] pos := by
  intro id pos p h
  rcases b.head G N with ⟨_, _, e⟩ | ⟨_, _, _, e⟩ | ⟨_, _, _, e⟩ <;> rw [e] at h <;> cases h

theorem SqL.ofHO {H : Hp} {a : Addr} {vs : List V} (K : PySem.W.Frag) (h : H a = some (.lst vs)) : SqL K H a vs := .inl (.inl h)
theorem SqT.ofHO {H : Hp} {a : Addr} {vs : List V} (K : PySem.W.Frag) (h : H a = some (.tup vs)) : SqT K H a vs := .inl (.inl h)
theorem atI_of_ix {α β : Type} {xs : List α} {vs : List β} {n : Int} {j : Nat} {w : β} (hl : xs.length = vs.length) (h : ixN xs.length n = some j) (e : vs[j]? = some w) : atI vs n = some w := by
  unfold atI
  rw [← hl, h]
  exact e

/-- ints, by an operator -/
theorem binP_int {o : Operator} {i j : Int} {z : PV} (h : binP o (.int i) (.int j) = some z) : ∃ n, z = .int n := by
  cases o <;> simp only [binP] at h <;> first
    | (cases h; exact ⟨_, rfl⟩)
    | (split at h <;> first | (cases h; exact ⟨_, rfl⟩) | cases h)
    | cases h
theorem mulOk_ok {i j : Int} (h : mulOk i j = true) : IntMulOk i j := by
  unfold mulOk at h
  rw [Bool.or_eq_true, Bool.or_eq_true] at h
  rcases h with (h | h) | h
  · have h' := of_decide_eq_true h
    refine CMul.ok (.inl ⟨?_, ?_⟩) <;> omega
  · have h' := of_decide_eq_true h
    refine CMul.ok (.inr ⟨?_, ?_⟩) <;> omega
  · have h' : i.natAbs.log2 + j.natAbs.log2 < 1000000 := of_decide_eq_true h
    exact CMulW.ok h'
/-- an operator on two ints -/
theorem op_ints {o : Operator} : OpR X (binaryOp o) (fun x y H Q => ∃ i j n, x = .int i ∧ y = .int j ∧ binP o (.int i) (.int j) = some (.int n) ∧ Q (.int n) H) := by
  intro pins s σ H x y v u Q I rx ry h
  obtain ⟨i, j, n, rfl, rfl, e, q⟩ := h
  obtain ⟨t, rfl⟩ := rx
  obtain ⟨t', rfl⟩ := ry
  cases o with
  | Add => simp only [binP] at e; cases e; exact add_int ⟨.int _, H, I.tok _, ⟨_, rfl⟩, q⟩
  | Sub => simp only [binP] at e; cases e; exact sub_int ⟨.int _, H, I.tok _, ⟨_, rfl⟩, q⟩
  | Mult =>
    simp only [binP] at e
    split at e
    · rename_i hm
      cases e
      exact mul_int ⟨.int _, H, I.tok _, ⟨_, rfl⟩, q⟩ (mulOk_ok hm)
    · cases e
  | FloorDiv =>
    simp only [binP] at e
    split at e
    · rename_i hm
      cases e
      unfold divOk at hm
      rw [Bool.and_eq_true] at hm
      have h1 := of_decide_eq_true hm.1
      have h2 := of_decide_eq_true hm.2
      exact floordiv_int (by omega) (by rw [Int.fdiv_eq_ediv_of_nonneg i (by omega)]; exact ⟨.int _, H, I.tok _, ⟨_, rfl⟩, q⟩) (.inl (PyProof.noPylong_of_log2 h2))
    · cases e
  | Mod =>
    simp only [binP] at e
    split at e
    · rename_i hm
      cases e
      have h1 := of_decide_eq_true hm
      exact mod_int' (by omega) (by rw [Int.fmod_eq_emod_of_nonneg i (by omega)]; exact ⟨.int _, H, I.tok _, ⟨_, rfl⟩, q⟩)
    · cases e
  | Pow =>
    simp only [binP] at e
    split at e
    · rename_i hm
      cases e
      unfold powOk at hm
      rw [Bool.and_eq_true, Bool.and_eq_true] at hm
      have h1 := of_decide_eq_true hm.1.1
      have h2 := of_decide_eq_true hm.1.2
      have h3 := of_decide_eq_true hm.2
      exact pow_int_small h1 h2 h3 ⟨.int _, H, I.tok _, ⟨_, rfl⟩, q⟩
    · cases e
  | _ => simp only [binP] at e; cases e

/-- an own class's field, read: x a value of class c -/
theorem ins_read (t : TopF T G X.mg) (K : X.K = T.K) {c f j : Nat} {vs : List V} {w : V} {a dx : Addr} {H : Hp} {Q : VK} (e : fldIx G c f = some j) (hw : vs[j]? = some w) (h : H a = some (.ins (T.adr c) dx (zipF T c vs))) (q : Q w H) :
    ∃ a' C dx fs v, V.ref a = .ref a' ∧ H a' = some (.ins C dx fs) ∧ Cls X.K C ∧ NoAttr X.K C (G.an.getD f "") ∧ fs.lookup (G.an.getD f "") = some v ∧ Q v H := by
  obtain ⟨l, e1, e2, e3, _⟩ := fld_look t e hw
  refine ⟨a, T.adr c, dx, zipF T c vs, w, rfl, h, ?_, ?_, e3, q⟩
  · rw [K]; exact t.cl c l f e1 e2
  · rw [K]; exact (t.na c l f e1 e2).1

mutual
theorem P.sound (C : XC T G N sc X) : ∀ (b : P), b.wf G N sc = true → PE X (b.emb G N) (rdP T G b)
  | .var i p, w => by
    unfold P.wf nameAt at w
    cases q : N[i]? with
    | none => rw [q] at w; cases w
    | some x =>
      rw [q] at w
      obtain ⟨v1, v2, v3⟩ := visB_vis w
      have e : (P.var i p).emb G N = .Name x p := by
        show Expr.Name (N.getD i "") p = _
        rw [List.getD_eq_getElem?_getD, q]
        rfl
      refine PE.cast (PE.imp (pe_var (i := i) (x := x) (by rw [C.eN]; exact q) (by rw [C.sc]; exact v1) v2 v3) ?_) e.symm
      rintro σ H Q ⟨Hf, env, O, S, i', ks, y, el, k⟩
      unfold P.loc at el
      split at el
      · rename_i z ez
        cases el
        obtain ⟨v, f⟩ := Foc.slot S.rep ez
        exact ⟨v, f.var rfl, k v ⟨_, ez, rfl⟩ f⟩
      · cases el
  | .ix b k p, w => by
    unfold P.wf at w
    rw [Bool.and_eq_true] at w
    have hb := P.sound C b w.1
    have hk := Qe.sound C k w.2
    refine PE.imp (pe_ix ix_seq hb hk (plain_ix (k.plain G N))) ?_
    rintro σ H Q ⟨Hf, env, O, S, i', ks, y, el, kk⟩
    unfold P.loc at el
    split at el
    · rename_i i ks' o xs eb
      split at el
      · rename_i n en
        split at el
        · rename_i j ej
          split at el
          · rename_i z ez
            simp only [Option.some.injEq, Prod.mk.injEq] at el
            obtain ⟨d1, d2, d3⟩ := el
            subst d1 d2 d3
            refine ⟨Hf, env, O, S, i, ks', .lst o xs, eb, fun v st f => ⟨Hf, env, O, S, .int n, en, fun u ru => ?_⟩⟩
            cases ru
            obtain ⟨a, dx, vs, w', rfl, h1, h2, h3, f'⟩ := f.kid st S.sub (y := z) (j := j) ez
            exact .inl ⟨a, vs, n, w', rfl, rfl, SqL.ofHO _ h1, atI_of_ix h2 ej h3, kk w' (st.kid ez) f'⟩
          · cases el
        · cases el
      · cases el
    · rename_i i ks' xs eb
      split at el
      · rename_i n en
        split at el
        · rename_i j ej
          split at el
          · rename_i z ez
            simp only [Option.some.injEq, Prod.mk.injEq] at el
            obtain ⟨d1, d2, d3⟩ := el
            subst d1 d2 d3
            refine ⟨Hf, env, O, S, i, ks', .tup xs, eb, fun v st f => ⟨Hf, env, O, S, .int n, en, fun u ru => ?_⟩⟩
            cases ru
            obtain ⟨a, dx, vs, w', rfl, h1, h2, h3, f'⟩ := f.kid st S.sub (y := z) (j := j) ez
            exact .inr (.inl ⟨a, vs, n, w', rfl, rfl, SqT.ofHO _ h1, atI_of_ix h2 ej h3, kk w' (st.kid ez) f'⟩)
          · cases el
        · cases el
      · cases el
    · cases el
  | .fld b f p, w => by
    unfold P.wf at w
    rw [Bool.and_eq_true] at w
    have hb := P.sound C b w.1
    refine PE.imp (pe_fld hb (attr_base (b.nocall G N))) ?_
    rintro σ H Q ⟨Hf, env, O, S, i', ks, y, el, kk⟩
    unfold P.loc at el
    split at el
    · rename_i i ks' o c xs eb
      split at el
      · rename_i j ej
        split at el
        · rename_i z ez
          simp only [Option.some.injEq, Prod.mk.injEq] at el
          obtain ⟨d1, d2, d3⟩ := el
          subst d1 d2 d3
          refine ⟨Hf, env, O, S, i, ks', .ins o c xs, eb, fun v st fo => ?_⟩
          obtain ⟨a, dx, vs, w', rfl, h1, h2, h3, f'⟩ := fo.kid st S.sub (y := z) (j := j) ez
          exact ins_read C.top C.K ej h3 h1 (kk w' (st.kid ez) f')
        · cases el
      · cases el
    · cases el
theorem Qe.sound (C : XC T G N sc X) : ∀ (k : Qe), k.wf G N sc = true → PE X (k.emb G N) (rdQ T G k)
  | .int n j p, _ => PE.imp pe_int (by rintro σ H Q ⟨Hf, env, O, S, x, e, k⟩; cases e; exact k _ (.int n))
  | .bl n j p, _ => PE.imp pe_bl (by rintro σ H Q ⟨Hf, env, O, S, x, e, k⟩; cases e; exact k _ (.bl n))
  | .non j p, _ => PE.imp pe_non (by rintro σ H Q ⟨Hf, env, O, S, x, e, k⟩; cases e; exact k _ .non)
  | .str n j p, _ => PE.imp pe_str (by rintro σ H Q ⟨Hf, env, O, S, x, e, k⟩; cases e; exact k _ (.str n))
  | .gl g p, w => by
    unfold Qe.wf at w
    obtain ⟨g1, g2⟩ := glB_gl C.sc w
    cases q : G.gl[g]? with
    | none =>
      refine ⟨fun pins s σ H Q I h => ?_⟩
      obtain ⟨Hf, env, O, S, x, e, k⟩ := h
      unfold Qe.ev at e
      rw [q] at e
      cases e
    | some r =>
      obtain ⟨x, z⟩ := r
      cases z with
      | int n =>
        obtain ⟨t, ht⟩ := C.top.gl g x n q
        have e : (Qe.gl g p).emb G N = .Name x p := by
          show Expr.Name (G.gl.getD g ("", .non)).1 p = _
          rw [List.getD_eq_getElem?_getD, q]
          rfl
        have ex : (G.gl.getD g ("", .non)).1 = x := by
          rw [List.getD_eq_getElem?_getD, q]
          rfl
        rw [ex] at g1 g2
        refine PE.cast (PE.imp (pe_glob (v := .int n) g1 ht ⟨t, rfl⟩ g2) ?_) e.symm
        rintro σ H Q ⟨Hf, env, O, S, x', e', k⟩
        unfold Qe.ev at e'
        rw [q] at e'
        cases e'
        exact k _ (.int n)
      | _ =>
        refine ⟨fun pins s σ H Q I h => ?_⟩
        obtain ⟨Hf, env, O, S, x, e, k⟩ := h
        unfold Qe.ev at e
        rw [q] at e
        cases e
  | .rd b, w => by
    unfold Qe.wf at w
    refine PE.imp (P.sound C b w) ?_
    rintro σ H Q ⟨Hf, env, O, S, x, e, k⟩
    unfold Qe.ev at e
    split at e
    · rename_i i ks y eb
      split at e
      · cases e
      · rename_i hn
        cases e
        refine ⟨Hf, env, O, S, i, ks, _, eb, fun v st f => k v ?_⟩
        obtain ⟨O1, Om, O2, _, r, _⟩ := f.ex
        have z := r.notOwn (by simpa using hn)
        subst z
        exact r
    · cases e
  | .bin o a b p, w => by
    unfold Qe.wf at w
    rw [Bool.and_eq_true] at w
    refine PE.imp (pe_op op_ints (Qe.sound C a w.1) (Qe.sound C b w.2)) ?_
    rintro σ H Q ⟨Hf, env, O, S, x, e, k⟩
    unfold Qe.ev at e
    split at e
    · rename_i i j ea eb
      refine ⟨Hf, env, O, S, .int i, ea, fun v rv => ⟨Hf, env, O, S, .int j, eb, fun u ru => ?_⟩⟩
      cases rv
      cases ru
      obtain ⟨n, rfl⟩ := binP_int e
      exact ⟨i, j, n, rfl, rfl, e, k _ (.int n)⟩
    · cases e
  | .neg a p, w => by
    unfold Qe.wf at w
    refine PE.imp (pe_un un_neg (Qe.sound C a w)) ?_
    rintro σ H Q ⟨Hf, env, O, S, x, e, k⟩
    unfold Qe.ev at e
    split at e
    · rename_i i ea
      cases e
      refine ⟨Hf, env, O, S, .int i, ea, fun v rv => ?_⟩
      cases rv
      exact ⟨i, rfl, k _ (.int _)⟩
    · cases e
  | .len b pn p, w => by
    unfold Qe.wf at w
    rw [Bool.and_eq_true] at w
    refine PE.imp (pe_len C w.2 (P.sound C b w.1) (b.plain G N)) ?_
    rintro σ H Q ⟨Hf, env, O, S, x, e, k⟩
    unfold Qe.ev at e
    split at e
    · rename_i i ks o xs eb
      cases e
      refine ⟨Hf, env, O, S, i, ks, _, eb, fun v st f => ?_⟩
      obtain ⟨O1, Om, O2, _, r, _⟩ := f.ex
      cases r with
      | @lstO a _ vs _ h rs => exact ⟨_, xs.length, rfl, .inl ⟨vs, SqL.ofHO _ h, rs.len⟩, k _ (.int _)⟩
      | @lstF a _ vs h rs => exact ⟨_, xs.length, rfl, .inl ⟨vs, SqL.ofHO _ (S.sub _ _ h), rs.len⟩, k _ (.int _)⟩
    · rename_i i ks xs eb
      cases e
      refine ⟨Hf, env, O, S, i, ks, _, eb, fun v st f => ?_⟩
      obtain ⟨O1, Om, O2, _, r, _⟩ := f.ex
      cases r with
      | @tup a _ vs h rs => exact ⟨_, xs.length, rfl, .inr ⟨vs, SqT.ofHO _ (S.sub _ _ h), rs.len⟩, k _ (.int _)⟩
    · rename_i i ks ns eb
      cases e
      refine ⟨Hf, env, O, S, i, ks, _, eb, fun v st f => ?_⟩
      obtain ⟨O1, Om, O2, _, r, _⟩ := f.ex
      cases r with
      | @scr a _ h => exact ⟨_, ns.length, rfl, .inl ⟨_, by rw [C.K]; exact S.sub.seq h, by simp⟩, k _ (.int _)⟩
    · cases e
  | .sci b kq p, w => by
    unfold Qe.wf at w
    rw [Bool.and_eq_true] at w
    refine PE.imp (pe_ix ix_seq (P.sound C b w.1) (Qe.sound C kq w.2) (plain_ix (kq.plain G N))) ?_
    rintro σ H Q ⟨Hf, env, O, S, x, e, k⟩
    unfold Qe.ev at e
    split at e
    · rename_i i ks ns n eb ek
      refine ⟨Hf, env, O, S, i, ks, _, eb, fun v st f => ⟨Hf, env, O, S, .int n, ek, fun u ru => ?_⟩⟩
      cases ru
      obtain ⟨O1, Om, O2, _, r, _⟩ := f.ex
      cases r with
      | @scr a _ h =>
        cases em : atI ns n with
        | none => rw [em] at e; cases e
        | some m =>
          rw [em] at e
          cases e
          have ew : atI (ns.map V.int) n = some (.int m) := by
            unfold atI at em ⊢
            rw [List.length_map]
            cases ej : ixN ns.length n with
            | none => rw [ej] at em; cases em
            | some j =>
              rw [ej] at em
              show (ns.map V.int)[j]? = _
              have em' : ns[j]? = some m := em
              rw [List.getElem?_map, em']
              rfl
          exact .inl ⟨a, _, n, .int m, rfl, rfl, by rw [C.K]; exact S.sub.seq h, ew, k _ (.int m)⟩
    · cases e
end
end
end DN

set_option Elab.async false
set_option linter.all false
set_option maxRecDepth 100000
set_option maxHeartbeats 4000000
/-! DEN, part 5: what a run of the plain interpreter says of the heap; operations on values. -/
namespace DN
open PySem PySem.Spec PyProof.Rows L2

/-- a result's promise: Q holds wherever the result is borne -/
def Post {α β : Type} (T : CTab) (rel : Hp → Hp → α → β → List Addr → Prop) (W : Nat → Hp → Prop) (σ : St) (H Hf : Hp) (O : List Addr) (r : R α) (Q : β → Hp → Prop) : Prop :=
  match r with
  | .ok x env' => ∀ v H' Hf' O' Ox, ST T σ H' Hf' env' O' → rel Hf' H' x v Ox → (O' ++ Ox).Nodup → (∀ a ∈ Ox, Hf' a = none) → Nxt H Hf O H' Hf' (O' ++ Ox) → Q v H'
  | .exc c env' => ∀ H' Hf' O', ST T σ H' Hf' env' O' → Nxt H Hf O H' Hf' O' → W c H'
  | .bad => False
abbrev WN := Nat → St → Hp → Prop
def rd {α β : Type} (T : CTab) (rel : St → Hp → Hp → α → β → List Addr → Prop) (W : WN) (m : DEnv → R α) : St → Hp → (β → Hp → Prop) → Prop :=
  fun σ H Q => ∃ Hf env O, ST T σ H Hf env O ∧ Post T (rel σ) (fun c => W c σ) σ H Hf O (m env) Q
abbrev relV (T : CTab) : St → Hp → Hp → PV → V → List Addr → Prop := fun _ Hf H => Rep T Hf H
abbrev relVs (T : CTab) : St → Hp → Hp → List PV → List V → List Addr → Prop := fun _ Hf H => Reps T Hf H
def relB : St → Hp → Hp → Bool → Bool → List Addr → Prop := fun _ _ _ x y O => x = y ∧ O = []

section
variable {α β γ δ : Type} {T : CTab} {W : Nat → Hp → Prop} {σ : St} {H Hf H1 Hf1 : Hp} {O O1 Ot : List Addr} {rel : Hp → Hp → α → β → List Addr → Prop} {rel' : Hp → Hp → γ → δ → List Addr → Prop}

theorem nodup3 {A B C : List Addr} (h1 : (A ++ C).Nodup) (hb : B.Nodup) (h : ∀ a ∈ B, a ∉ A ∧ a ∉ C) : (A ++ (B ++ C)).Nodup := by
  obtain ⟨n1, n2, n3⟩ := List.nodup_append.mp h1
  refine List.nodup_append.mpr ⟨n1, List.nodup_append.mpr ⟨hb, n2, fun a ha b hb e => ?_⟩, fun a ha b hb e => ?_⟩
  · subst e; exact (h a ha).2 hb
  · subst e
    rcases List.mem_append.mp hb with hb | hb
    · exact (h a hb).1 ha
    · exact n3 a ha a hb rfl

/-- one part of a run behind another; Ot: what is kept beside the slots -/
theorem Post.step {m : R α} {g : α → DEnv → R γ} {Q : δ → Hp → Prop} (N1 : Nxt H Hf O H1 Hf1 (O1 ++ Ot)) (nd : (O1 ++ Ot).Nodup) (dt : ∀ a ∈ Ot, Hf1 a = none) (tt : ∀ a ∈ Ot, ∃ o, H1 a = some o)
    (h : Post T rel' W σ H Hf O (m.bind g) Q) : Post T rel W σ H1 Hf1 O1 m (fun u H2 => ∃ y Hf2 env2 O2 Oy, ST T σ H2 Hf2 env2 O2 ∧ rel Hf2 H2 y u Oy ∧ (O2 ++ (Ot ++ Oy)).Nodup ∧ (∀ a ∈ Ot ++ Oy, Hf2 a = none) ∧
      Nxt H Hf O H2 Hf2 (O2 ++ (Ot ++ Oy)) ∧ (∀ a ∈ Ot, H2 a = H1 a) ∧ Same Hf1 Hf2 ∧ Post T rel' W σ H Hf O (g y env2) Q) := by
  have dj : ∀ a ∈ Ot, a ∉ O1 := fun a ha z => (List.nodup_append.mp nd).2.2 a z a ha rfl
  have trans : ∀ {H2 Hf2 : Hp} {P : List Addr}, Nxt H1 Hf1 O1 H2 Hf2 P → Nxt H Hf O H2 Hf2 (Ot ++ P) := fun {H2 Hf2 P} n => by
    have n' : Nxt H1 Hf1 (O1 ++ Ot) H2 Hf2 (Ot ++ P) := ⟨n.sf, fun b o hb => n.fr b o fun z => hb (List.mem_append_left _ z), fun a ha => (List.mem_append.mp ha).elim (fun z => .inl (List.mem_append_right _ z)) fun z => (n.new a z).imp (List.mem_append_left _) id,
      fun a ha => (n.fz a ha).imp id fun z => z.imp (List.mem_append_left _) id⟩
    exact N1.trans n'
  cases m with
  | ok x env2 =>
    intro u H2 Hf2 O2 Oy S r ndy dy n
    refine ⟨x, Hf2, env2, O2, Oy, S, r, ?_, fun a ha => ?_, (trans n).weak fun a ha => ?_, fun a ha => ?_, n.sf, h⟩
    · refine nodup3 ndy (List.nodup_append.mp nd).2.1 fun a ha => ?_
      obtain ⟨o, e⟩ := tt a ha
      have no : a ∉ O2 ++ Oy := fun z => (n.new a z).elim (dj a ha) fun z => by rw [e] at z; cases z
      exact ⟨fun z => no (List.mem_append_left _ z), fun z => no (List.mem_append_right _ z)⟩
    · rcases List.mem_append.mp ha with ha | ha
      · cases q : Hf2 a with
        | none => rfl
        | some o =>
          obtain ⟨o', e⟩ := tt a ha
          rcases n.fz a (by rw [q]; exact fun z => nomatch z) with z | z | z
          · exact absurd (dt a ha) z
          · exact absurd z (dj a ha)
          · rw [e] at z; cases z
      · exact dy a ha
    · rcases List.mem_append.mp ha with ha | ha
      · exact List.mem_append_right _ (List.mem_append_left _ ha)
      · rcases List.mem_append.mp ha with ha | ha
        · exact List.mem_append_left _ ha
        · exact List.mem_append_right _ (List.mem_append_right _ ha)
    · obtain ⟨o, e⟩ := tt a ha
      rw [e]
      exact n.fr a o (dj a ha) e
  | exc c env2 =>
    intro H2 Hf2 O2 S n
    exact h H2 Hf2 O2 S ((trans n).weak fun a ha => List.mem_append_right _ ha)
  | bad => exact h
/-- at the start -/
theorem Post.first {m : R α} {g : α → DEnv → R γ} {Q : δ → Hp → Prop} {env : DEnv} (S : ST T σ H Hf env O) (h : Post T rel' W σ H Hf O (m.bind g) Q) : Post T rel W σ H Hf O m (fun u H2 => ∃ y Hf2 env2 O2 Oy, ST T σ H2 Hf2 env2 O2 ∧ rel Hf2 H2 y u Oy ∧ (O2 ++ Oy).Nodup ∧ (∀ a ∈ Oy, Hf2 a = none) ∧
      Nxt H Hf O H2 Hf2 (O2 ++ Oy) ∧ Post T rel' W σ H Hf O (g y env2) Q) := by
  have z := Post.step (T := T) (rel := rel) (rel' := rel') (W := W) (σ := σ) (H := H) (Hf := Hf) (O := O) (H1 := H) (Hf1 := Hf) (O1 := O) (Ot := []) (m := m) (g := g) (Q := Q) (by rw [List.append_nil]; exact Nxt.refl _ _ _) (by rw [List.append_nil]; exact S.nd) (fun _ h => nomatch h) (fun _ h => nomatch h) h
  refine Post.mono z fun u H2 ⟨y, Hf2, env2, O2, Oy, a, b, c, d, e, _, _, f⟩ => ⟨y, Hf2, env2, O2, Oy, a, b, c, d, e, f⟩
where
  Post.mono {α β : Type} {T : CTab} {rel : Hp → Hp → α → β → List Addr → Prop} {W : Nat → Hp → Prop} {σ : St} {H Hf : Hp} {O : List Addr} {m : R α} {Q Q' : β → Hp → Prop} (h : Post T rel W σ H Hf O m Q) (k : ∀ v H, Q v H → Q' v H) : Post T rel W σ H Hf O m Q' := by
    cases m with
    | ok x env => exact fun v H' Hf' O' Ox a b c d e => k _ _ (h v H' Hf' O' Ox a b c d e)
    | exc c env => exact h
    | bad => exact h

/-- a value made of what is there: scalars, or one new object -/
def Fresh (T : CTab) (H Hf : Hp) (z : PV) (Q : VK) : Prop := ∀ v H' Hf' Oz, Same Hf Hf' → Same H H' → Same Hf' H' → (∀ a, Hf' a ≠ none → Hf a ≠ none ∨ H a = none) → Rep T Hf' H' z v Oz → Oz.Nodup → (∀ a ∈ Oz, Hf' a = none ∧ H a = none) → Q v H'
theorem Post.fin {z : PV} {env2 : DEnv} {H2 Hf2 : Hp} {O2 Ot : List Addr} {Q : VK} (S : ST T σ H2 Hf2 env2 O2) (n : Nxt H Hf O H2 Hf2 (O2 ++ Ot)) (h : Post T (Rep T) W σ H Hf O (.ok z env2) Q) : Fresh T H2 Hf2 z Q := by
  intro v H' Hf' Oz sf sh sub fz r nz dz
  have S' : ST T σ H' Hf' env2 O2 := by
    refine ⟨S.rep.move sf fun a ha => ?_, S.nd, sub, fun a ha => ?_⟩
    · obtain ⟨o, e⟩ := S.rep.there a ha
      rw [e]; exact sh a o e
    · cases q : Hf' a with
      | none => rfl
      | some o =>
        rcases fz a (by rw [q]; exact fun z => nomatch z) with z | z
        · exact absurd (S.dis a ha) z
        · obtain ⟨o', e⟩ := S.rep.there a ha
          rw [e] at z; cases z
  refine h v H' Hf' O2 Oz S' r ?_ (fun a ha => (dz a ha).1) ?_
  · refine List.nodup_append.mpr ⟨S.nd, nz, fun a ha b hb e => ?_⟩
    subst e
    obtain ⟨o, e⟩ := S.rep.there a ha
    rw [(dz a hb).2] at e; cases e
  · have n2 : Nxt H2 Hf2 (O2 ++ Ot) H' Hf' (O2 ++ Oz) := ⟨sf, fun b o _ e => sh b o e, fun a ha => (List.mem_append.mp ha).elim (fun z => .inl (List.mem_append_left _ z)) fun z => .inr (dz a z).2, fun a ha => (fz a ha).imp id .inr⟩
    exact n.trans n2
theorem Fresh.sc {z : PV} {v : V} {Q : VK} (f : Fresh T H Hf z Q) (s : Same Hf H) (r : ∀ Hf H, Rep T Hf H z v []) : Q v H :=
  f v H Hf [] (Same.refl _) (Same.refl _) s (fun _ h => .inl h) (r _ _) List.nodup_nil fun _ h => nomatch h
theorem Fresh.old {z : PV} {v : V} {Q : VK} (f : Fresh T H Hf z Q) (s : Same Hf H) (r : Rep T Hf H z v []) : Q v H :=
  f v H Hf [] (Same.refl _) (Same.refl _) s (fun _ h => .inl h) r List.nodup_nil fun _ h => nomatch h
theorem same_upd {H : Hp} {p : Addr} {o : HO} (h : H p = none) : Same H (upd H p o) := fun b x e => by
  rw [upd_ne (ne_of_none e h)]; exact e
theorem same_upd2 {Hf H : Hp} {p : Addr} {o : HO} (s : Same Hf H) : Same (upd Hf p o) (upd H p o) := fun b x e => by
  by_cases hb : b = p
  · subst hb; rw [upd_same] at e ⊢; exact e
  · rw [upd_ne hb] at e ⊢; exact s b x e
theorem Same.none' {Hf H : Hp} (s : Same Hf H) {p : Addr} (h : H p = none) : Hf p = none := s.free h
theorem Fresh.lst {xs : List PV} {vs : List V} {Q : VK} (f : Fresh T H Hf (.lst true xs) Q) (s : Same Hf H) (r : Reps T Hf H xs vs []) : ∀ p, H p = none → Q (.ref p) (upd H p (.lst vs)) := by
  intro p hp
  refine f (.ref p) _ Hf [p] (Same.refl _) (same_upd hp) (s.trans (same_upd hp)) (fun _ h => .inl h) (.lstO upd_same (r.still (Same.refl _))) (by simp) fun a ha => ?_
  have e : a = p := by simpa using ha
  subst e
  exact ⟨Same.none' s hp, hp⟩
theorem Fresh.tup {xs : List PV} {vs : List V} {Q : VK} (f : Fresh T H Hf (.tup xs) Q) (s : Same Hf H) (r : Reps T Hf H xs vs []) : ∀ p, H p = none → Q (.ref p) (upd H p (.tup vs)) := by
  intro p hp
  refine f (.ref p) _ (upd Hf p (.tup vs)) [] (same_upd (Same.none' s hp)) (same_upd hp) (same_upd2 s) (fun a h => ?_) (.tup upd_same (r.still (same_upd (Same.none' s hp)))) List.nodup_nil fun _ h => nomatch h
  by_cases ha : a = p
  · subst ha; exact .inr hp
  · rw [upd_ne ha] at h; exact .inl h
end

/-! ### operations, by values -/
section
variable {T : CTab} {X : Cx} {H Hf : Hp}
theorem sOk_le {n : Nat} (h : sOk n = true) : n ≤ sizeLine := of_decide_eq_true h
theorem lst_at {o : Bool} {xs : List PV} {v : V} {O : List Addr} (s : Same Hf H) (r : Rep T Hf H (.lst o xs) v O) (f : flatP xs = true) : ∃ a vs, v = .ref a ∧ H a = some (.lst vs) ∧ Reps T Hf H xs vs [] := by
  cases r with
  | @lstO a _ vs O' h rs =>
    have e := rs.notOwn f
    subst e
    exact ⟨a, vs, rfl, h, rs⟩
  | @lstF a _ vs h rs => exact ⟨a, vs, rfl, s _ _ h, rs⟩
theorem tup_at {xs : List PV} {v : V} {O : List Addr} (s : Same Hf H) (r : Rep T Hf H (.tup xs) v O) : ∃ a vs, v = .ref a ∧ H a = some (.tup vs) ∧ Reps T Hf H xs vs [] := by
  cases r with
  | @tup a _ vs h rs => exact ⟨a, vs, rfl, s _ _ h, rs⟩
theorem lst_any {o : Bool} {xs : List PV} {v : V} {O : List Addr} (s : Same Hf H) (r : Rep T Hf H (.lst o xs) v O) : ∃ a vs O', v = .ref a ∧ H a = some (.lst vs) ∧ Reps T Hf H xs vs O' := by
  cases r with
  | @lstO a _ vs O' h rs => exact ⟨a, vs, _, rfl, h, rs⟩
  | @lstF a _ vs h rs => exact ⟨a, vs, _, rfl, s _ _ h, rs⟩

def rBin (T : CTab) (K : PySem.W.Frag) (o : Operator) : R2 := fun v u H Q => ∃ x y z Hf Ox Oy, binP o x y = some z ∧ Rep T Hf H x v Ox ∧ Rep T Hf H y u Oy ∧ Same Hf H ∧ Fresh T H Hf z Q
theorem op_binP {o : Operator} : OpR X (binaryOp o) (rBin T X.K o) := by
  intro pins s σ H v u vv uu Q I rv ru h
  obtain ⟨x, y, z, Hf, Ox, Oy, e, rx, ry, sub, f⟩ := h
  by_cases hi : (∃ i, x = .int i) ∧ ∃ j, y = .int j
  · obtain ⟨⟨i, rfl⟩, j, rfl⟩ := hi
    cases rx
    cases ry
    obtain ⟨n, rfl⟩ := binP_int e
    exact op_ints pins s σ H _ _ vv uu Q I rv ru ⟨i, j, n, rfl, rfl, e, f.sc sub fun _ _ => .int n⟩
  · cases o with
    | Add =>
      cases x with
      | str a =>
        cases y with
        | str b =>
          simp only [binP] at e
          split at e
          · rename_i hz
            cases e
            cases rx
            cases ry
            exact op_add_str pins s σ H _ _ vv uu Q I rv ru ⟨a, b, rfl, rfl, sOk_le hz, f.sc sub fun _ _ => .str _⟩
          · cases e
        | _ => simp only [binP] at e; cases e
      | lst o1 xs =>
        cases y with
        | lst o2 ys =>
          simp only [binP] at e
          split at e
          · rename_i hz
            cases e
            rw [Bool.and_eq_true, Bool.and_eq_true] at hz
            obtain ⟨a, vs, rfl, h1, r1⟩ := lst_at sub rx hz.1.2
            obtain ⟨b, ws, rfl, h2, r2⟩ := lst_at sub ry hz.2
            refine op_cat pins s σ H _ _ vv uu Q I rv ru ⟨a, b, vs, ws, rfl, rfl, h1, h2, ?_, f.lst sub (r1.appN r2)⟩
            rw [← r1.len, ← r2.len]; exact sOk_le hz.1.1
          · cases e
        | _ => simp only [binP] at e; cases e
      | tup xs =>
        cases y with
        | tup ys =>
          simp only [binP] at e
          split at e
          · rename_i hz
            cases e
            obtain ⟨a, vs, rfl, h1, r1⟩ := tup_at sub rx
            obtain ⟨b, ws, rfl, h2, r2⟩ := tup_at sub ry
            have hl : vs.length + ws.length ≤ sizeLine := by rw [← r1.len, ← r2.len]; exact sOk_le hz
            refine op_catA pins s σ H _ _ vv uu Q I rv ru ⟨a, b, vs, ws, rfl, rfl, SqT.ofHO _ h1, SqT.ofHO _ h2, hl, ?_⟩
            refine ⟨fun e1 => ?_, fun e1 e2 => ?_, fun _ _ => f.tup sub (r1.appN r2)⟩
            · subst e1
              have e3 : xs = [] := List.eq_nil_of_length_eq_zero (by rw [r1.len]; rfl)
              subst e3
              exact f.old sub (by cases ry with | tup h r => exact .tup h r)
            · subst e2
              have e3 : ys = [] := List.eq_nil_of_length_eq_zero (by rw [r2.len]; rfl)
              subst e3
              rw [List.append_nil] at f
              exact f.old sub (by cases rx with | tup h r => exact .tup h r)
          · cases e
        | _ => simp only [binP] at e; cases e
      | int i =>
        cases y with
        | int j => exact absurd ⟨⟨i, rfl⟩, j, rfl⟩ hi
        | _ => simp only [binP] at e; cases e
      | _ => simp only [binP] at e; cases e
    | Mult =>
      cases x with
      | lst o1 xs =>
        cases y with
        | int k =>
          simp only [binP] at e
          split at e
          · rename_i hz
            cases e
            rw [Bool.and_eq_true, Bool.and_eq_true, Bool.and_eq_true] at hz
            obtain ⟨a, vs, rfl, h1, r1⟩ := lst_at sub rx hz.2
            cases ry
            have k1 := of_decide_eq_true hz.1.1.1
            have k2 := of_decide_eq_true hz.1.1.2
            refine op_rep pins s σ H _ _ vv uu Q I rv ru ⟨a, k, vs, rfl, rfl, h1, by omega, by omega, ?_, f.lst sub (r1.rep _)⟩
            rw [← r1.len]; exact sOk_le hz.1.2
          · cases e
        | _ => simp only [binP] at e; cases e
      | int i =>
        cases y with
        | int j => exact absurd ⟨⟨i, rfl⟩, j, rfl⟩ hi
        | _ => simp only [binP] at e; cases e
      | _ => simp only [binP] at e; cases e
    | _ =>
      cases x with
      | int i =>
        cases y with
        | int j => exact absurd ⟨⟨i, rfl⟩, j, rfl⟩ hi
        | _ => simp only [binP] at e; cases e
      | _ => simp only [binP] at e; cases e
end
end DN

set_option Elab.async false
set_option linter.all false
set_option maxRecDepth 100000
set_option maxHeartbeats 4000000
/-! DEN, part 6: comparisons, built-in functions, isinstance, truth: by values. -/
namespace DN
open PySem PySem.Spec PyProof.Rows L2
section
variable {T : CTab} {X : Cx} {H Hf : Hp}
mutual
theorem Rep.dp {K : PySem.W.Frag} (s : Same Hf H) : ∀ {x : PV} {v : V} {O : List Addr} {d : PyData}, Rep T Hf H x v O → x.toD = some d → Dp K H v d
  | _, _, _, _, .non, e => by cases e; exact .non
  | _, _, _, _, .bl b, e => by cases e; exact .bl b
  | _, _, _, _, .int i, e => by cases e; exact .int i
  | _, _, _, _, .str x, e => by cases e; exact .str x
  | _, _, _, _, .tup (xs := xs) h r, e => by
    unfold PV.toD at e
    cases q : toDs xs with
    | none => rw [q] at e; cases e
    | some ds =>
      rw [q] at e
      cases e
      exact .tup (SqT.ofHO _ (s _ _ h)) (Reps.dp s r q)
  | _, _, _, _, .lstF (xs := xs) h r, e => by
    unfold PV.toD at e
    cases q : toDs xs with
    | none => rw [q] at e; cases e
    | some ds =>
      rw [q] at e
      cases e
      exact .lst (SqL.ofHO _ (s _ _ h)) (Reps.dp s r q)
  | _, _, _, _, .lstO (xs := xs) h r, e => by
    unfold PV.toD at e
    cases q : toDs xs with
    | none => rw [q] at e; cases e
    | some ds =>
      rw [q] at e
      cases e
      exact .lst (SqL.ofHO _ h) (Reps.dp s r q)
  | _, _, _, _, .insF _ _ _, e => by cases e
  | _, _, _, _, .insO _ _ _, e => by cases e
  | _, _, _, _, .cls _, e => by cases e
  | _, _, _, _, .scr _, e => by cases e
theorem Reps.dp {K : PySem.W.Frag} (s : Same Hf H) : ∀ {xs : List PV} {vs : List V} {O : List Addr} {ds : List PyData}, Reps T Hf H xs vs O → toDs xs = some ds → DpAll K H vs ds
  | _, _, _, _, .nil, e => by cases e; exact .nil
  | _, _, _, _, .cons (x := x) (xs := xs) h r, e => by
    unfold toDs at e
    split at e
    · rename_i d ds e1 e2
      cases e
      exact .cons (Rep.dp s h e1) (Reps.dp s r e2)
    · cases e
end
theorem eqP_some {x y : PV} {c : Bool} (e : eqP x y = some c) : ∃ d d', x.toD = some d ∧ y.toD = some d' ∧ SeqAt.shaped d = true ∧ SeqAt.shaped d' = true ∧ c = PyData.eqv d d' := by
  unfold eqP at e
  split at e
  · rename_i d d' e1 e2
    split at e
    · rename_i hs
      rw [Bool.and_eq_true] at hs
      cases e
      exact ⟨d, d', e1, e2, hs.1, hs.2, rfl⟩
    · cases e
  · cases e
theorem Rep.non_iff {x : PV} {v : V} {O : List Addr} (r : Rep T Hf H x v O) : decide (v = .non) = x.isNon := by
  cases r <;> first | rfl | exact decide_eq_true rfl | exact decide_eq_false (by intro z; cases z)
theorem Rep.flatE {x : PV} {v u : V} {O : List Addr} (r : Rep T Hf H x v O) (e : x.flat = some u) : v = u ∧ flatV v = true := by
  cases r <;> first | (cases e; exact ⟨rfl, rfl⟩) | cases e
theorem Reps.flatE : ∀ {xs : List PV} {vs us : List V} {O : List Addr}, Reps T Hf H xs vs O → flats xs = some us → vs = us ∧ vs.all flatV = true
  | _, _, _, _, .nil, e => by cases e; exact ⟨rfl, rfl⟩
  | _, _, _, _, .cons h r, e => by
    unfold flats at e
    split at e
    · rename_i v vs e1 e2
      cases e
      obtain ⟨a1, a2⟩ := h.flatE e1
      obtain ⟨b1, b2⟩ := Reps.flatE r e2
      subst a1 b1
      exact ⟨rfl, by rw [List.all_cons, a2, b2]; rfl⟩
    · cases e
def rCmpP (T : CTab) (o : CmpOp) : R2 := fun v u H Q => ∃ x y c Hf Ox Oy, cmpP o x y = some c ∧ Rep T Hf H x v Ox ∧ Rep T Hf H y u Oy ∧ Same Hf H ∧ Q (.bl c) H
theorem cmp_ints {o : CmpOp} {x y : PV} {c : Bool} (ho : o = .Lt ∨ o = .LtE ∨ o = .Gt ∨ o = .GtE) (e : cmpP o x y = some c) : ∃ i j, x = .int i ∧ y = .int j := by
  cases x with
  | int i =>
    cases y with
    | int j => exact ⟨i, j, rfl, rfl⟩
    | _ => rcases ho with rfl | rfl | rfl | rfl <;> cases e
  | _ => rcases ho with rfl | rfl | rfl | rfl <;> first | (cases y <;> cases e; done) | cases e
theorem op_cmpP {o : CmpOp} (hu : X.A.units + 64 < cLine) : OpR X (compareOp o) (rCmpP T o) := by
  intro pins s σ H v u vv uu Q I rv ru h
  obtain ⟨x, y, c, Hf, Ox, Oy, e, rx, ry, sub, q⟩ := h
  have tI : ∀ {o : CmpOp} {p : Int → Int → Bool}, (o = .Lt ∨ o = .LtE ∨ o = .Gt ∨ o = .GtE) → cmpP o x y = some c → (∀ i j, cmpP o (.int i) (.int j) = some (p i j)) → (∀ i j, v = .int i → u = .int j → Q (.bl (p i j)) H → wpAny (model X.prog X.w) X.A (compareOp o vv uu) (EP X pins σ Q) X.xe s) →
      wpAny (model X.prog X.w) X.A (compareOp o vv uu) (EP X pins σ Q) X.xe s := fun {o p} ho e hp k => by
    obtain ⟨i, j, rfl, rfl⟩ := cmp_ints ho e
    cases rx
    cases ry
    rw [hp] at e
    cases e
    exact k i j rfl rfl q
  cases o with
  | Eq =>
    obtain ⟨d, d', e1, e2, s1, s2, rfl⟩ := eqP_some e
    exact op_eqD hu pins s σ H _ _ vv uu Q I rv ru ⟨d, d', rx.dp sub e1, ry.dp sub e2, s1, s2, q⟩
  | NotEq =>
    have e' : (eqP x y).map not = some c := e
    cases e3 : eqP x y with
    | none => rw [e3] at e'; cases e'
    | some b =>
      rw [e3] at e'
      cases e'
      obtain ⟨d, d', e1, e2, s1, s2, rfl⟩ := eqP_some e3
      exact op_neD hu pins s σ H _ _ vv uu Q I rv ru ⟨d, d', rx.dp sub e1, ry.dp sub e2, s1, s2, q⟩
  | Lt => exact tI (.inl rfl) e (fun _ _ => rfl) fun i j e1 e2 q => op_lt pins s σ H _ _ vv uu Q I rv ru ⟨i, j, e1, e2, q⟩
  | LtE => exact tI (.inr (.inl rfl)) e (fun _ _ => rfl) fun i j e1 e2 q => op_le pins s σ H _ _ vv uu Q I rv ru ⟨i, j, e1, e2, q⟩
  | Gt => exact tI (.inr (.inr (.inl rfl))) e (fun _ _ => rfl) fun i j e1 e2 q => op_gt pins s σ H _ _ vv uu Q I rv ru ⟨i, j, e1, e2, q⟩
  | GtE => exact tI (.inr (.inr (.inr rfl))) e (fun _ _ => rfl) fun i j e1 e2 q => op_ge pins s σ H _ _ vv uu Q I rv ru ⟨i, j, e1, e2, q⟩
  | Is =>
    cases y with
    | non =>
      cases ry
      have e' : some x.isNon = some c := e
      cases e'
      exact op_isN pins s σ H _ _ vv uu Q I rv ru ⟨rfl, by rw [rx.non_iff]; exact q⟩
    | _ => cases e
  | IsNot =>
    cases y with
    | non =>
      cases ry
      have e' : some (!x.isNon) = some c := e
      cases e'
      exact op_notN pins s σ H _ _ vv uu Q I rv ru ⟨rfl, by rw [rx.non_iff]; exact q⟩
    | _ => cases e
  | In =>
    have fin : ∀ {xs : List PV} {vs : List V} {a : Addr} {O : List Addr}, u = .ref a → (SqL X.K H a vs ∨ SqT X.K H a vs) → Reps T Hf H xs vs O → inP x xs = some c → wpAny (model X.prog X.w) X.A (compareOp .In vv uu) (EP X pins σ Q) X.xe s := fun {xs vs a O} eu hs r e => by
      unfold inP at e
      split at e
      · rename_i w ws e1 e2
        cases e
        obtain ⟨a1, a2⟩ := rx.flatE e1
        obtain ⟨b1, b2⟩ := r.flatE e2
        subst a1 b1
        exact op_in_seq pins s σ H _ _ vv uu Q I rv ru ⟨a, vs, eu, hs, a2, b2, q⟩
      · cases e
    cases y with
    | lst o xs =>
      obtain ⟨a, vs, O', eu, h1, r1⟩ := lst_any sub ry
      exact fin eu (.inl (SqL.ofHO _ h1)) r1 e
    | tup xs =>
      obtain ⟨a, vs, eu, h1, r1⟩ := tup_at sub ry
      exact fin eu (.inr (SqT.ofHO _ h1)) r1 e
    | _ => cases e
  | NotIn =>
    have fin : ∀ {xs : List PV} {vs : List V} {a : Addr} {O : List Addr}, u = .ref a → (SqL X.K H a vs ∨ SqT X.K H a vs) → Reps T Hf H xs vs O → (inP x xs).map not = some c → wpAny (model X.prog X.w) X.A (compareOp .NotIn vv uu) (EP X pins σ Q) X.xe s := fun {xs vs a O} eu hs r e => by
      unfold inP at e
      split at e
      · rename_i w ws e1 e2
        cases e
        obtain ⟨a1, a2⟩ := rx.flatE e1
        obtain ⟨b1, b2⟩ := r.flatE e2
        subst a1 b1
        exact op_notIn_seq pins s σ H _ _ vv uu Q I rv ru ⟨a, vs, eu, hs, a2, b2, q⟩
      · cases e
    cases y with
    | lst o xs =>
      obtain ⟨a, vs, O', eu, h1, r1⟩ := lst_any sub ry
      exact fin eu (.inl (SqL.ofHO _ h1)) r1 e
    | tup xs =>
      obtain ⟨a, vs, eu, h1, r1⟩ := tup_at sub ry
      exact fin eu (.inr (SqT.ofHO _ h1)) r1 e
    | _ => cases e

/-! ### truth -/
theorem em {xs : List PV} {vs : List V} (h : xs.length = vs.length) : (!xs.isEmpty) = !vs.isEmpty := by
  cases xs <;> cases vs <;> first | rfl | cases h
theorem tru_P {x : PV} {v : V} {O : List Addr} {c : Bool} {K : PySem.W.Frag} (s : Same Hf H) (r : Rep T Hf H x v O) (e : truP x = some c) : TruV K v H c := by
  cases r with
  | non => cases e; rfl
  | bl b => cases e; rfl
  | int i => cases e; rfl
  | str x => cases e
  | tup h r =>
    cases e
    exact .inr (.inl ⟨_, SqT.ofHO _ (s _ _ h), em r.len⟩)
  | lstF h r =>
    cases e
    exact .inl ⟨_, SqL.ofHO _ (s _ _ h), em r.len⟩
  | lstO h r =>
    cases e
    exact .inl ⟨_, SqL.ofHO _ h, em r.len⟩
  | insF _ _ _ => cases e
  | insO _ _ _ => cases e
  | cls _ => cases e
  | scr _ => cases e

/-! ### built-in functions of one argument -/
theorem intsP_reps : ∀ {xs : List PV} {vs : List V} {O : List Addr} {ns : List Int}, Reps T Hf H xs vs O → intsP xs = some ns → vs = ns.map V.int
  | _, _, _, _, .nil, e => by cases e; rfl
  | _, _, _, ns, .cons (x := x) (xs := xs) h r, e => by
    cases x with
    | int i =>
      unfold intsP at e
      cases q : intsP xs with
      | none => rw [q] at e; cases e
      | some ms =>
        rw [q] at e
        cases e
        cases h
        rw [intsP_reps r q]
        rfl
    | _ => cases e
def F1.val : F1 → Value
  | .len => .builtin "len" | .list => .type "list" | .tuple => .type "tuple" | .sum => .builtin "sum" | .int => .type "int"
def rF1 (T : CTab) (f : F1) : List V → Hp → VK → Prop := fun vs H Q => ∃ v x z Hf Ox, vs = [v] ∧ f1P f x = some z ∧ Rep T Hf H x v Ox ∧ Same Hf H ∧ Fresh T H Hf z Q
theorem call_f1 {f : F1} (hc : X.calm = true) (hK : X.K = T.K) : CallR X f.val (rF1 T f) := by
  intro pins s σ H vs us Q I rv h
  obtain ⟨v, x, z, Hf, Ox, rfl, e, rx, sub, fr⟩ := h
  cases f with
  | len =>
    cases x with
    | lst o xs =>
      cases e
      obtain ⟨a, ws, O', rfl, h1, r1⟩ := lst_any sub rx
      exact call_len pins s σ H _ us Q I rv ⟨_, xs.length, rfl, .inl ⟨ws, SqL.ofHO _ h1, r1.len⟩, fr.sc sub fun _ _ => .int _⟩
    | tup xs =>
      cases e
      obtain ⟨a, ws, rfl, h1, r1⟩ := tup_at sub rx
      exact call_len pins s σ H _ us Q I rv ⟨_, xs.length, rfl, .inr ⟨ws, SqT.ofHO _ h1, r1.len⟩, fr.sc sub fun _ _ => .int _⟩
    | scr ns =>
      cases e
      cases rx with
      | @scr a _ h => exact call_len pins s σ H _ us Q I rv ⟨_, ns.length, rfl, .inl ⟨_, by rw [hK]; exact sub.seq h, by simp⟩, fr.sc sub fun _ _ => .int _⟩
    | _ => cases e
  | list =>
    cases x with
    | lst o xs =>
      have e' : (if flatP xs then some (PV.lst true xs) else none) = some z := e
      split at e'
      · rename_i hf
        cases e'
        obtain ⟨a, ws, rfl, h1, r1⟩ := lst_at sub rx hf
        exact call_list_of pins s σ H _ us Q I rv ⟨a, ws, rfl, .inl (SqL.ofHO _ h1), fr.lst sub r1⟩
      · cases e'
    | tup xs =>
      cases e
      obtain ⟨a, ws, rfl, h1, r1⟩ := tup_at sub rx
      exact call_list_of pins s σ H _ us Q I rv ⟨a, ws, rfl, .inr (SqT.ofHO _ h1), fr.lst sub r1⟩
    | _ => cases e
  | tuple =>
    cases x with
    | lst o xs =>
      have e' : (if flatP xs then some (PV.tup xs) else none) = some z := e
      split at e'
      · rename_i hf
        cases e'
        obtain ⟨a, ws, rfl, h1, r1⟩ := lst_at sub rx hf
        exact call_tuple_of pins s σ H _ us Q I rv ⟨a, ws, rfl, .inl ⟨SqL.ofHO _ h1, fr.tup sub r1⟩⟩
      · cases e'
    | tup xs =>
      cases e
      cases rx with
      | @tup a _ ws h r => exact call_tuple_of pins s σ H _ us Q I rv ⟨a, ws, rfl, .inr ⟨SqT.ofHO _ (sub _ _ h), fr.old sub (.tup h r)⟩⟩
    | _ => cases e
  | sum =>
    cases x with
    | lst o xs =>
      have e' : (intsP xs).map (fun ns => PV.int ns.sum) = some z := e
      cases q : intsP xs with
      | none => rw [q] at e'; cases e'
      | some ns =>
        rw [q] at e'
        cases e'
        obtain ⟨a, ws, O', rfl, h1, r1⟩ := lst_any sub rx
        have ew := intsP_reps r1 q
        subst ew
        exact cr_sum hc pins s σ H _ us Q I rv ⟨a, ns, rfl, SqL.ofHO _ h1, fr.sc sub fun _ _ => .int _⟩
    | _ => cases e
  | int =>
    cases x with
    | int i =>
      cases e
      cases rx
      exact call_int1 pins s σ H _ us Q I rv (.inl ⟨i, rfl, fr.sc sub fun _ _ => .int _⟩)
    | bl b =>
      cases e
      cases rx
      exact call_int1 pins s σ H _ us Q I rv (.inr ⟨b, rfl, fr.sc sub fun _ _ => .int _⟩)
    | _ => cases e
def F2.val : F2 → Value
  | .min => .builtin "min" | .max => .builtin "max"
def rF2 (T : CTab) (f : F2) : List V → Hp → VK → Prop := fun vs H Q => ∃ v u x y z Hf Ox Oy, vs = [v, u] ∧ f2P f x y = some z ∧ Rep T Hf H x v Ox ∧ Rep T Hf H y u Oy ∧ Same Hf H ∧ Fresh T H Hf z Q
theorem call_f2 {f : F2} (hc : X.calm = true) : CallR X f.val (rF2 T f) := by
  intro pins s σ H vs us Q I rv h
  obtain ⟨v, u, x, y, z, Hf, Ox, Oy, rfl, e, rx, ry, sub, fr⟩ := h
  cases x with
  | int i =>
    cases y with
    | int j =>
      cases rx
      cases ry
      cases f with
      | min => cases e; exact call_min2 hc pins s σ H _ us Q I rv ⟨i, j, rfl, fr.sc sub fun _ _ => .int _⟩
      | max => cases e; exact call_max2 hc pins s σ H _ us Q I rv ⟨i, j, rfl, fr.sc sub fun _ _ => .int _⟩
    | _ => cases f <;> cases e
  | _ => cases f <;> cases e

/-! ### isinstance -/
theorem ty_of {x : PV} {v : V} {O : List Addr} {t : String} {K : PySem.W.Frag} (s : Same Hf H) (r : Rep T Hf H x v O) (e : x.ty = some t) : TyX K H v (.type t) := by
  cases r with
  | non => cases e; exact .base .non
  | bl b => cases e; exact .base (.bl b)
  | int i => cases e; exact .base (.int i)
  | str x => cases e; exact .base (.str x)
  | tup h r => cases e; exact .base (.tup (s _ _ h))
  | lstF h r => cases e; exact .base (.lst (s _ _ h))
  | lstO h r => cases e; exact .base (.lst h)
  | insF _ _ _ => cases e
  | insO _ _ _ => cases e
  | cls _ => cases e
  | scr _ => cases e
theorem isi_ty {x : PV} {n : String} {b : Bool} (e : isiP x (.ty n) = some b) : ∃ t, x.ty = some t ∧ kitB t n = some b := by
  have e' : (x.ty.bind fun t => kitB t n) = some b := e
  cases q : x.ty with
  | none => rw [q] at e'; cases e'
  | some t => rw [q] at e'; exact ⟨t, rfl, e'⟩
end
end DN

set_option Elab.async false
set_option linter.all false
set_option maxRecDepth 100000
set_option maxHeartbeats 4000000
/-! DEN, part 7: defs' promises, arguments. -/
namespace DN
open PySem PySem.Spec PyProof.Rows L2

/-- def number f (n parameters) does what F says -/
def spDen (T : CTab) (F : Fns) (n f : Nat) : Sp := fun vs H Q E => ∃ Hf xs O, Reps T Hf H xs vs O ∧ O.Nodup ∧ Same Hf H ∧ (∀ a ∈ O, Hf a = none) ∧ xs.length = n ∧
  match F f xs with
  | .ok r ps => ∀ v H' Hf' O' Or, EnvR T Hf' H' ps (vs.map some) O' → Rep T Hf' H' r v Or → (O' ++ Or).Nodup → (∀ a ∈ O' ++ Or, Hf' a = none) → Same Hf' H' → Nxt H Hf O H' Hf' (O' ++ Or) → Q v H'
  | .exc c ps => ∀ H' Hf' O', EnvR T Hf' H' ps (vs.map some) O' → O'.Nodup → (∀ a ∈ O', Hf' a = none) → Same Hf' H' → Nxt H Hf O H' Hf' O' → E (.ref (T.adr c)) none H'
  | .bad => False

/-- a call's arguments as they are evaluated: what is handed over by its slot stands in the slot -/
inductive ArgR (T : CTab) (Hf H : Hp) (σ : St) : As → List (Option PV) → List V → List Addr → Prop
  | nil : ArgR T Hf H σ .nil [] [] []
  | mv {i : Nat} {p : Pos} {as : As} {xs : List (Option PV)} {v : V} {vs : List V} {O : List Addr} : σ[i]? = some (some v) → ArgR T Hf H σ as xs vs O → ArgR T Hf H σ (.mv i p as) (none :: xs) (v :: vs) O
  | val {f : Bool} {ee : E} {as : As} {x : PV} {xs : List (Option PV)} {v : V} {vs : List V} {O1 O2 : List Addr} : Rep T Hf H x v O1 → ArgR T Hf H σ as xs vs O2 → ArgR T Hf H σ (.e f ee as) (some x :: xs) (v :: vs) (O1 ++ O2)
section
variable {T : CTab} {Hf H Hf' H' : Hp} {σ : St}
theorem ArgR.there : ∀ {as : As} {xs : List (Option PV)} {vs : List V} {O : List Addr}, ArgR T Hf H σ as xs vs O → ∀ a ∈ O, ∃ o, H a = some o
  | _, _, _, _, .nil, _, h => nomatch h
  | _, _, _, _, .mv _ r, a, h => r.there a h
  | _, _, _, _, .val h r, a, ha => (List.mem_append.mp ha).elim (h.there a) (r.there a)
theorem ArgR.move : ∀ {as : As} {xs : List (Option PV)} {vs : List V} {O : List Addr}, ArgR T Hf H σ as xs vs O → Same Hf Hf' → (∀ a ∈ O, H' a = H a) → ArgR T Hf' H' σ as xs vs O
  | _, _, _, _, .nil, _, _ => .nil
  | _, _, _, _, .mv e r, s, k => .mv e (r.move s k)
  | _, _, _, _, .val h r, s, k => .val (h.move s fun a ha => k a (List.mem_append_left _ ha)) (r.move s fun a ha => k a (List.mem_append_right _ ha))
theorem ArgR.app : ∀ {as bs : As} {xs ys : List (Option PV)} {vs ws : List V} {O1 O2 : List Addr}, ArgR T Hf H σ as xs vs O1 → ArgR T Hf H σ bs ys ws O2 → ArgR T Hf H σ (as.app bs) (xs ++ ys) (vs ++ ws) (O1 ++ O2)
  | _, _, _, _, _, _, _, _, .nil, r => r
  | _, _, _, _, _, _, _, _, .mv e q, r => .mv e (q.app r)
  | _, _, _, _, _, _, _, _, .val h q, r => by
    have z := ArgR.val (f := ‹_›) (ee := ‹_›) h (q.app r)
    rw [← List.append_assoc] at z
    exact z
theorem ArgR.vlen : ∀ {as : As} {xs : List (Option PV)} {vs : List V} {O : List Addr}, ArgR T Hf H σ as xs vs O → vs.length = as.len
  | _, _, _, _, .nil => rfl
  | _, _, _, _, .mv _ r => congrArg (· + 1) r.vlen
  | _, _, _, _, .val _ r => congrArg (· + 1) r.vlen
theorem set_self {α : Type} {l : List α} {k : Nat} {x : α} (h : l[k]? = some x) : l.set k x = l := Rep.kid.List.set_getElem?_self' h
theorem ndl {A B : List Addr} (h : (A ++ B).Nodup) : A.Nodup := (List.nodup_append.mp h).1
theorem ndr {A B : List Addr} (h : (A ++ B).Nodup) : B.Nodup := (List.nodup_append.mp h).2.1
theorem ndx {A B : List Addr} (h : (A ++ B).Nodup) {a : Addr} (x : a ∈ A) (y : a ∈ B) : False := (List.nodup_append.mp h).2.2 a x a y rfl
theorem ndm {A B : List Addr} (ha : A.Nodup) (hb : B.Nodup) (h : ∀ a ∈ A, a ∈ B → False) : (A ++ B).Nodup := List.nodup_append.mpr ⟨ha, hb, fun a x b y e => h a x (e ▸ y)⟩
/-- what goes out -/
theorem args_out : ∀ {as : As} {xs : List (Option PV)} {vs : List V} {Oa : List Addr} {env env' : DEnv} {O : List Addr} {ys : List PV}, ArgR T Hf H σ as xs vs Oa → EnvR T Hf H env σ O → (O ++ Oa).Nodup → takeOut as xs env = some (ys, env') →
    ∃ O' Oy, EnvR T Hf H env' σ O' ∧ Reps T Hf H ys vs Oy ∧ (O' ++ Oy).Nodup ∧ (∀ a ∈ O', a ∈ O) ∧ (∀ a ∈ Oy, a ∈ O ∨ a ∈ Oa) ∧ env'.length = env.length
  | _, _, _, _, _, _, O, _, .nil, r, nd, e => by
    unfold takeOut at e
    cases e
    exact ⟨O, [], r, .nil, nd, fun _ h => h, fun _ h => (nomatch h), rfl⟩
  | _, _, _, Oa, env, _, O, _, .mv (i := i) (v := v) ev q, r, nd, e => by
    unfold takeOut at e
    split at e
    · rename_i x ex
      cases e2 : takeOut _ _ (env.set i none) with
      | none => rw [e2] at e; cases e
      | some z =>
        obtain ⟨ys, env2⟩ := z
        rw [e2] at e
        cases e
        obtain ⟨v', O1, Om, O2, f1, f2, f3, _, p⟩ := r.focus ex
        rw [ev] at f1
        cases f1
        subst f2
        have r' := p (Same.refl _) fun _ _ => rfl
        have nd1 : ((O1 ++ O2) ++ Oa).Nodup := by
          refine ndm ?_ (ndr nd) fun a ha hb => ndx nd ((List.mem_append.mp ha).elim (fun z => List.mem_append_left _ z) fun z => List.mem_append_right _ (List.mem_append_right _ z)) hb
          exact ndm (ndl (ndl nd)) (ndr (ndr (ndl nd))) fun a ha hb => ndx (ndl nd) ha (List.mem_append_right _ hb)
        obtain ⟨O', Oy, g1, g2, g3, g4, g5, g6⟩ := args_out q r' nd1 e2
        have mfree : ∀ a ∈ Om, a ∉ O1 ++ O2 ∧ a ∉ Oa := fun a ha => by
          refine ⟨fun z => ?_, fun z => ndx nd (List.mem_append_right _ (List.mem_append_left _ ha)) z⟩
          rcases List.mem_append.mp z with z | z
          · exact ndx (ndl nd) z (List.mem_append_left _ ha)
          · exact ndx (ndr (ndl nd)) ha z
        refine ⟨O', Om ++ Oy, g1, .cons f3 g2, nodup3 g3 (ndl (ndr (ndl nd))) fun a ha => ⟨fun z => (mfree a ha).1 (g4 a z), fun z => (g5 a z).elim (mfree a ha).1 (mfree a ha).2⟩, fun a ha => ?_, fun a ha => ?_, by rw [g6, List.length_set]⟩
        · rcases List.mem_append.mp (g4 a ha) with z | z
          · exact List.mem_append_left _ z
          · exact List.mem_append_right _ (List.mem_append_right _ z)
        · rcases List.mem_append.mp ha with z | z
          · exact .inl (List.mem_append_right _ (List.mem_append_left _ z))
          · rcases g5 a z with z | z
            · rcases List.mem_append.mp z with z | z
              · exact .inl (List.mem_append_left _ z)
              · exact .inl (List.mem_append_right _ (List.mem_append_right _ z))
            · exact .inr z
    · cases e
  | _, _, _, _, env, _, O, _, .val (O1 := Oc) (O2 := Od) h q, r, nd, e => by
    unfold takeOut at e
    cases e2 : takeOut _ _ env with
    | none => rw [e2] at e; cases e
    | some z =>
      obtain ⟨ys, env2⟩ := z
      rw [e2] at e
      cases e
      have nd1 : (O ++ Od).Nodup := ndm (ndl nd) (ndr (ndr nd)) fun a ha hb => ndx nd ha (List.mem_append_right _ hb)
      obtain ⟨O', Oy, g1, g2, g3, g4, g5, g6⟩ := args_out q r nd1 e2
      refine ⟨O', Oc ++ Oy, g1, .cons h g2, nodup3 g3 (ndl (ndr nd)) fun a ha => ⟨fun z => ndx nd (g4 a z) (List.mem_append_left _ ha), fun z => (g5 a z).elim (fun z => ndx nd z (List.mem_append_left _ ha)) fun z => ndx (ndr nd) ha z⟩, g4, fun a ha => ?_, g6⟩
      rcases List.mem_append.mp ha with z | z
      · exact .inr (List.mem_append_left _ z)
      · exact (g5 a z).imp id (List.mem_append_right _)
theorem putBack_len : ∀ (as : As) (ps env : DEnv), (putBack as ps env).length = env.length
  | .nil, _, _ => rfl
  | .mv i p as, [], env => rfl
  | .mv i p as, x :: ps, env => by
    show (putBack as ps (env.set i x)).length = _
    rw [putBack_len as ps, List.length_set]
  | .e _ _ as, [], env => rfl
  | .e _ _ as, x :: ps, env => putBack_len as ps env
/-- what comes back -/
theorem args_backM {Hf0 H0 : Hp} {more : St} : ∀ {as : As} {xs : List (Option PV)} {vs : List V} {Oa : List Addr} {env ps : DEnv} {O Op : List Addr}, ArgR T Hf0 H0 σ as xs vs Oa → EnvR T Hf H env σ O → EnvR T Hf H ps (vs.map some ++ more) Op → (O ++ Op).Nodup →
    ∃ O', EnvR T Hf H (putBack as ps env) σ O' ∧ O'.Nodup ∧ ∀ a ∈ O', a ∈ O ∨ a ∈ Op
  | _, _, _, _, env, _, O, _, .nil, r, _, nd => ⟨O, r, ndl nd, fun _ h => .inl h⟩
  | _, _, _, _, env, _, O, _, .mv (i := i) (v := v) ev q, r, .som (O1 := Oc) (O2 := Od) hx rp, nd => by
    have hi : i < env.length := by rw [r.len]; exact (List.getElem?_eq_some_iff.mp ev).1
    have nd1 : (O ++ Oc).Nodup := ndm (ndl nd) (ndl (ndr nd)) fun a ha hb => ndx nd ha (List.mem_append_left _ hb)
    obtain ⟨O1, r1, n1, s1⟩ := r.put hx nd1 hi
    rw [set_self ev] at r1
    have nd2 : (O1 ++ Od).Nodup := ndm n1 (ndr (ndr nd)) fun a ha hb => (s1 a ha).elim (fun z => ndx nd z (List.mem_append_right _ hb)) fun z => ndx (ndr nd) z hb
    obtain ⟨O', r', n', s'⟩ := args_backM q r1 rp nd2
    exact ⟨O', r', n', fun a ha => (s' a ha).elim (fun z => (s1 a z).imp id (List.mem_append_left _)) fun z => .inr (List.mem_append_right _ z)⟩
  | _, _, _, _, env, _, O, _, .mv (i := i) (v := v) ev q, r, .non _ rp, nd => by
    obtain ⟨O1, r1, n1, s1⟩ := r.clear i (some v) (ndl nd)
    rw [set_self ev] at r1
    have nd2 : (O1 ++ _).Nodup := ndm n1 (ndr nd) fun a ha hb => ndx nd (s1 a ha) hb
    obtain ⟨O', r', n', s'⟩ := args_backM q r1 rp nd2
    exact ⟨O', r', n', fun a ha => (s' a ha).imp (s1 a) id⟩
  | _, _, _, _, env, _, O, _, .val h q, r, .som (O1 := Oc) (O2 := Od) hx rp, nd => by
    have nd2 : (O ++ Od).Nodup := ndm (ndl nd) (ndr (ndr nd)) fun a ha hb => ndx nd ha (List.mem_append_right _ hb)
    obtain ⟨O', r', n', s'⟩ := args_backM q r rp nd2
    exact ⟨O', r', n', fun a ha => (s' a ha).imp id (List.mem_append_right _)⟩
  | _, _, _, _, env, _, O, _, .val h q, r, .non _ rp, nd => by
    obtain ⟨O', r', n', s'⟩ := args_backM q r rp nd
    exact ⟨O', r', n', s'⟩
theorem args_back {Hf0 H0 : Hp} {as : As} {xs : List (Option PV)} {vs : List V} {Oa : List Addr} {env ps : DEnv} {O Op : List Addr} (ra : ArgR T Hf0 H0 σ as xs vs Oa) (r : EnvR T Hf H env σ O) (rp : EnvR T Hf H ps (vs.map some) Op) (nd : (O ++ Op).Nodup) :
    ∃ O', EnvR T Hf H (putBack as ps env) σ O' ∧ O'.Nodup ∧ ∀ a ∈ O', a ∈ O ∨ a ∈ Op := args_backM (more := []) ra r (by rw [List.append_nil]; exact rp) nd
end

/-! ### the call, seen from the caller -/
section
variable {T : CTab} {σ : St} {H Hf H2 Hf2 H' Hf' : Hp} {O O2 Oa : List Addr} {W : Nat → Hp → Prop}
/-- a kept environment behind a call that had only Oy -/
theorem EnvR.past {env : DEnv} {O3 Oy P : List Addr} (r : EnvR T Hf2 H2 env σ O3) (nd : (O3 ++ Oy).Nodup) (n : Nxt H2 Hf2 Oy H' Hf' P) : EnvR T Hf' H' env σ O3 :=
  r.move n.sf fun a ha => by
    obtain ⟨o, e⟩ := r.there a ha
    rw [e]
    exact n.fr a o (fun z => ndx nd ha z) e
theorem fresh_nd {O3 Oy P : List Addr} (ht : ∀ a ∈ O3, ∃ o, H2 a = some o) (nd : (O3 ++ Oy).Nodup) (hp : P.Nodup) (n : Nxt H2 Hf2 Oy H' Hf' P) : (O3 ++ P).Nodup :=
  ndm (ndl nd) hp fun a ha hb => by
    rcases n.new a hb with z | z
    · exact ndx nd ha z
    · obtain ⟨o, e⟩ := ht a ha
      rw [e] at z; cases z
theorem Nxt.up {O3 Oy P P' : List Addr} (n : Nxt H2 Hf2 Oy H' Hf' P) (h1 : ∀ a ∈ Oy, a ∈ O3) (h2 : ∀ a ∈ P', a ∈ O3 ∨ a ∈ P) : Nxt H2 Hf2 O3 H' Hf' P' :=
  ⟨n.sf, fun b o hb e => n.fr b o (fun z => hb (h1 b z)) e, fun a ha => (h2 a ha).elim .inl fun z => (n.new a z).imp (h1 a) id, fun a ha => (n.fz a ha).imp id fun z => z.imp (h1 a) id⟩
theorem dis_past {O3 Oy P : List Addr} (S : ∀ a ∈ O3, Hf2 a = none) (ht : ∀ a ∈ O3, ∃ o, H2 a = some o) (nd : (O3 ++ Oy).Nodup) (n : Nxt H2 Hf2 Oy H' Hf' P) : ∀ a ∈ O3, Hf' a = none := fun a ha => by
  cases q : Hf' a with
  | none => rfl
  | some o =>
    rcases n.fz a (by rw [q]; exact fun z => nomatch z) with z | z | z
    · exact absurd (S a ha) z
    · exact (ndx nd ha z).elim
    · obtain ⟨o', e⟩ := ht a ha
      rw [e] at z; cases z
/-- f(..): the promise that the callee asks for, from what the run says -/
theorem call_den {F : Fns} {n f : Nat} {as : As} {xs : List (Option PV)} {vs : List V} {env2 env3 : DEnv} {ys : List PV} {Q : VK}
    (S : ST T σ H2 Hf2 env2 O2) (ra : ArgR T Hf2 H2 σ as xs vs Oa) (nd : (O2 ++ Oa).Nodup) (da : ∀ a ∈ Oa, Hf2 a = none) (N : Nxt H Hf O H2 Hf2 (O2 ++ Oa)) (et : takeOut as xs env2 = some (ys, env3)) (hn : as.len = n)
    (h : Post T (Rep T) W σ H Hf O (callR as env3 (F f ys)) Q) : spDen T F n f vs H2 Q (fun cls d H' => ∃ c, cls = .ref (T.adr c) ∧ d = none ∧ W c H') := by
  obtain ⟨O3, Oy, g1, g2, g3, g4, g5, _⟩ := args_out ra S.rep nd et
  have g5' : ∀ a ∈ Oy, a ∈ O2 ++ Oa := fun a ha => List.mem_append.mpr (g5 a ha)
  refine ⟨Hf2, ys, Oy, g2, ndr g3, S.sub, fun a ha => (g5 a ha).elim (S.dis a) (da a), by rw [g2.len, ra.vlen, hn], ?_⟩
  have back : ∀ {ps : DEnv} {H' Hf' : Hp} {O' P : List Addr}, EnvR T Hf' H' ps (vs.map some) O' → (∀ a ∈ O', a ∈ P) → P.Nodup → O'.Nodup → (∀ a ∈ P, Hf' a = none) → Same Hf' H' → Nxt H2 Hf2 Oy H' Hf' P → ∃ O4, ST T σ H' Hf' (putBack as ps env3) O4 ∧ (∀ a ∈ O4, a ∈ O3 ∨ a ∈ O') := fun {ps H' Hf' O' P} rp hs hP hO dP sub n => by
    have r3 := g1.past g3 n
    have nd3 : (O3 ++ O').Nodup := by
      have z := fresh_nd g1.there g3 hP n
      exact ndm (ndl z) hO fun a ha hb => ndx z ha (hs a hb)
    obtain ⟨O4, r4, n4, s4⟩ := args_back ra r3 rp nd3
    refine ⟨O4, ⟨r4, n4, sub, fun a ha => ?_⟩, s4⟩
    rcases s4 a ha with z | z
    · exact dis_past (fun a ha => S.dis a (g4 a ha)) g1.there g3 n a z
    · exact dP a (hs a z)
  cases er : F f ys with
  | ok r ps =>
    rw [er] at h
    intro v H' Hf' O' Or rp rr nd' d' sub n
    obtain ⟨O4, S4, s4⟩ := back rp (fun a ha => List.mem_append_left _ ha) nd' (ndl nd') d' sub n
    have z := fresh_nd g1.there g3 nd' n
    refine h v H' Hf' O4 Or S4 rr (ndm S4.nd (ndr nd') fun a ha hb => ?_) (fun a ha => d' a (List.mem_append_right _ ha)) (N.trans (n.up g5' fun a ha => ?_))
    · rcases s4 a ha with y | y
      · exact ndx z y (List.mem_append_right _ hb)
      · exact ndx nd' y hb
    · rcases List.mem_append.mp ha with y | y
      · rcases s4 a y with y | y
        · exact .inl (List.mem_append_left _ (g4 a y))
        · exact .inr (List.mem_append_left _ y)
      · exact .inr (List.mem_append_right _ y)
  | exc c ps =>
    rw [er] at h
    intro H' Hf' O' rp nd' d' sub n
    obtain ⟨O4, S4, s4⟩ := back rp (fun a ha => ha) nd' nd' d' sub n
    refine ⟨c, rfl, rfl, h H' Hf' O4 S4 (N.trans (n.up g5' fun a ha => ?_))⟩
    rcases s4 a ha with y | y
    · exact .inl (List.mem_append_left _ (g4 a y))
    · exact .inr y
  | bad =>
    rw [er] at h
    exact h
end
end DN

set_option Elab.async false
set_option linter.all false
set_option maxRecDepth 100000
set_option maxHeartbeats 4000000
/-! DEN, part 8: each construct of expressions, from its parts. -/
namespace DN
open PySem PySem.Spec PyProof.Rows L2
section
variable {T : CTab} {G : Prg} {N : List Str} {sc : Scope} {X : Cx} {W : WN}

theorem Post.mono {α β : Type} {rel : Hp → Hp → α → β → List Addr → Prop} {W : Nat → Hp → Prop} {σ : St} {H Hf : Hp} {O : List Addr} {m : R α} {Q Q' : β → Hp → Prop} (h : Post T rel W σ H Hf O m Q) (k : ∀ v H, Q v H → Q' v H) : Post T rel W σ H Hf O m Q' :=
  Post.first.Post.mono h k
/-- a quiet value -/
theorem rd_quiet {σ : St} {H : Hp} {Q : VK} {k : Qe} (h : rd T (relV T) W (fun env => R.of (k.ev G env) env) σ H Q) : rdQ T G k σ H Q := by
  obtain ⟨Hf, env, O, S, p⟩ := h
  refine ⟨Hf, env, O, S, ?_⟩
  dsimp only at p
  cases e : k.ev G env with
  | none => rw [e] at p; exact p.elim
  | some x =>
    rw [e] at p
    exact ⟨x, rfl, fun v r => p v H Hf O [] S r (by rw [List.append_nil]; exact S.nd) (fun _ h => nomatch h) (by rw [List.append_nil]; exact Nxt.refl _ _ _)⟩
theorem nameAt_var (C : XC T G N sc X) {i : Nat} (w : nameAt N sc i = true) (p : Pos) : PE X (.Name (N.getD i "") p) (tVar i) := by
  unfold nameAt at w
  cases q : N[i]? with
  | none => rw [q] at w; cases w
  | some x =>
    rw [q] at w
    obtain ⟨v1, v2, v3⟩ := visB_vis w
    have e : Expr.Name (N.getD i "") p = .Name x p := by
      rw [List.getD_eq_getElem?_getD, q]; rfl
    exact PE.cast (pe_var (i := i) (x := x) (by rw [C.eN]; exact q) (by rw [C.sc]; exact v1) v2 v3) e.symm
theorem pe_mv (C : XC T G N sc X) {i : Nat} (w : nameAt N sc i = true) (p : Pos) {F : Fns} : PE X (.Name (N.getD i "") p) (rd T (relV T) W ((E.mv i p).ev G F)) := by
  refine PE.imp (nameAt_var C w p) ?_
  rintro σ H Q ⟨Hf, env, O, S, h⟩
  unfold E.ev at h
  split at h
  · rename_i x ex
    obtain ⟨v, O1, Om, O2, f1, f2, f3, _, p⟩ := S.rep.focus ex
    refine ⟨v, f1, ?_⟩
    have r' := p (Same.refl _) fun _ _ => rfl
    have nd := S.nd
    rw [f2] at nd
    have d := S.dis
    rw [f2] at d
    have n12 : (O1 ++ O2).Nodup := ndm (ndl nd) (ndr (ndr nd)) fun a ha hb => ndx nd ha (List.mem_append_right _ hb)
    refine h v H Hf (O1 ++ O2) Om ⟨r', n12, S.sub, fun a ha => d a ?_⟩ f3 ?_ (fun a ha => d a ?_) ((Nxt.refl H Hf O).weak fun a ha => ?_)
    · exact (List.mem_append.mp ha).elim (List.mem_append_left _) fun z => List.mem_append_right _ (List.mem_append_right _ z)
    · refine ndm n12 (ndl (ndr nd)) fun a ha hb => ?_
      rcases List.mem_append.mp ha with z | z
      · exact ndx nd z (List.mem_append_left _ hb)
      · exact ndx (ndr nd) hb z
    · exact List.mem_append_right _ (List.mem_append_left _ ha)
    · rw [f2]
      rcases List.mem_append.mp ha with z | z
      · exact (List.mem_append.mp z).elim (List.mem_append_left _) fun z => List.mem_append_right _ (List.mem_append_right _ z)
      · exact List.mem_append_right _ (List.mem_append_left _ z)
  · exact h.elim
theorem pe_fz (C : XC T G N sc X) {i : Nat} (w : nameAt N sc i = true) (p : Pos) {F : Fns} : PE X (.Name (N.getD i "") p) (rd T (relV T) W ((E.fz i p).ev G F)) := by
  refine PE.imp (nameAt_var C w p) ?_
  rintro σ H Q ⟨Hf, env, O, S, h⟩
  unfold E.ev at h
  split at h
  · rename_i x ex
    obtain ⟨v, O1, Om, O2, f1, f2, f3, p, _⟩ := S.rep.focus ex
    refine ⟨v, f1, ?_⟩
    have nd := S.nd
    rw [f2] at nd
    have d := S.dis
    rw [f2] at d
    have sf : Same Hf (frzH Hf H Om) := frzH_same fun a ha => d a (List.mem_append_right _ (List.mem_append_left _ ha))
    have rf := f3.frz (Q := Om) (fun _ h => h) sf
    have r' := p (v' := v) (Om' := []) sf (fun _ _ => rfl) rf
    rw [set_self f1] at r'
    have n12 : (O1 ++ ([] ++ O2)).Nodup := ndm (ndl nd) (ndr (ndr nd)) fun a ha hb => ndx nd ha (List.mem_append_right _ hb)
    refine h v H (frzH Hf H Om) (O1 ++ ([] ++ O2)) [] ⟨r', n12, frzH_sub S.sub, fun a ha => ?_⟩ rf (by rw [List.append_nil]; exact n12) (fun _ h => nomatch h) ?_
    · cases q : frzH Hf H Om a with
      | none => rfl
      | some o =>
        rcases frzH_new (a := a) (by rw [q]; exact fun z => nomatch z) with z | z
        · rcases List.mem_append.mp ha with y | y
          · exact absurd (d a (List.mem_append_left _ y)) z
          · exact absurd (d a (List.mem_append_right _ (List.mem_append_right _ y))) z
        · rcases List.mem_append.mp ha with y | y
          · exact (ndx nd y (List.mem_append_left _ z)).elim
          · exact (ndx (ndr nd) z y).elim
    · refine ⟨sf, fun _ _ _ h => h, fun a ha => .inl ?_, fun a ha => ?_⟩
      · rw [List.append_nil] at ha
        rw [f2]
        exact (List.mem_append.mp ha).elim (List.mem_append_left _) fun z => List.mem_append_right _ (List.mem_append_right _ z)
      · rcases frzH_new ha with z | z
        · exact .inl z
        · rw [f2]; exact .inr (.inl (List.mem_append_right _ (List.mem_append_left _ z)))
  · exact h.elim

/-! ### two operands -/
def rTwo (T : CTab) (f : PV → PV → Option PV) : R2 := fun v u H Q => ∃ x y z Hf Ox Oy, f x y = some z ∧ Rep T Hf H x v Ox ∧ Rep T Hf H y u Oy ∧ Same Hf H ∧ Fresh T H Hf z Q
theorem of_some {α : Type} {o : Option α} {env : DEnv} {β : Type} {rel : Hp → Hp → α → β → List Addr → Prop} {W : Nat → Hp → Prop} {σ : St} {H Hf : Hp} {O : List Addr} {Q : β → Hp → Prop} (h : Post T rel W σ H Hf O (R.of o env) Q) : ∃ a, o = some a ∧ Post T rel W σ H Hf O (.ok a env) Q := by
  cases o with
  | none => exact h.elim
  | some a => exact ⟨a, rfl, h⟩
theorem two_vv {ma mb : DEnv → R PV} {f : PV → PV → Option PV} {σ : St} {H : Hp} {Q : VK} (h : rd T (relV T) W (fun env => (ma env).bind fun x env => (mb env).bind fun y env => R.of (f x y) env) σ H Q) :
    tOp (rTwo T f) (rd T (relV T) W ma) (rd T (relV T) W mb) σ H Q := by
  obtain ⟨Hf, env, O, S, p⟩ := h
  refine ⟨Hf, env, O, S, Post.mono (Post.first S p) ?_⟩
  rintro v H1 ⟨x, Hf1, env1, O1, Ox, S1, rx, nx, dx, N1, p1⟩
  refine ⟨Hf1, env1, O1, S1, Post.mono (Post.step N1 nx dx rx.there p1) ?_⟩
  rintro u H2 ⟨y, Hf2, env2, O2, Oy, S2, ry, ny, dy, N2, kx, sf, p2⟩
  obtain ⟨z, ez, p3⟩ := of_some p2
  exact ⟨x, y, z, Hf2, Ox, Oy, ez, rx.move sf kx, ry, S2.sub, Post.fin S2 N2 p3⟩
theorem two_vp {ma : DEnv → R PV} {b : P} {f : PV → PV → Option PV} {F : Fns} {σ : St} {H : Hp} {Q : VK} (h : rd T (relV T) W (fun env => (ma env).bind fun x env => ((B.p b).ev G F env).bind fun y env => R.of (f x y) env) σ H Q) :
    tOp (rTwo T f) (rd T (relV T) W ma) (rdP T G b) σ H Q := by
  obtain ⟨Hf, env, O, S, p⟩ := h
  refine ⟨Hf, env, O, S, Post.mono (Post.first S p) ?_⟩
  rintro v H1 ⟨x, Hf1, env1, O1, Ox, S1, rx, nx, dx, N1, p1⟩
  refine ⟨Hf1, env1, O1, S1, ?_⟩
  unfold B.ev at p1
  split at p1
  · rename_i i ks y el
    refine ⟨i, ks, y, el, fun u st fo => ?_⟩
    obtain ⟨P1, Pm, P2, _, ry, _⟩ := fo.ex
    obtain ⟨z, ez, p3⟩ := of_some p1
    exact ⟨x, y, z, Hf1, Ox, Pm, ez, rx, ry, S1.sub, Post.fin S1 N1 p3⟩
  · exact p1.elim
theorem evp_some {b : P} {F : Fns} {env : DEnv} {i : Nat} {ks : List Nat} {x : PV} (e : b.loc G env = some (i, ks, x)) : (B.p b).ev G F env = .ok x env := by
  unfold B.ev; rw [e]
theorem evp_none {b : P} {F : Fns} {env : DEnv} (e : b.loc G env = none) : (B.p b).ev G F env = .bad := by
  unfold B.ev; rw [e]
theorem two_pp {a b : P} {f : PV → PV → Option PV} {F : Fns} {σ : St} {H : Hp} {Q : VK} (h : rd T (relV T) W (fun env => ((B.p a).ev G F env).bind fun x env => ((B.p b).ev G F env).bind fun y env => R.of (f x y) env) σ H Q) :
    tOp (rTwo T f) (rdP T G a) (rdP T G b) σ H Q := by
  obtain ⟨Hf, env, O, S, p⟩ := h
  dsimp only at p
  cases ea : a.loc G env with
  | none => rw [evp_none ea] at p; exact p.elim
  | some r =>
    obtain ⟨i, ks, x⟩ := r
    rw [evp_some ea] at p
    refine ⟨Hf, env, O, S, i, ks, x, ea, fun v st fo => ⟨Hf, env, O, S, ?_⟩⟩
    dsimp only [R.bind] at p
    cases eb : b.loc G env with
    | none => rw [evp_none eb] at p; exact p.elim
    | some r =>
      obtain ⟨i2, ks2, y⟩ := r
      rw [evp_some eb] at p
      refine ⟨i2, ks2, y, rfl, fun u st2 fo2 => ?_⟩
      obtain ⟨z, ez, p3⟩ := of_some (o := f x y) p
      obtain ⟨_, Pm, _, _, rx, _⟩ := fo.ex
      obtain ⟨_, Pn, _, _, ry, _⟩ := fo2.ex
      exact ⟨x, y, z, Hf, Pm, Pn, ez, rx, ry, S.sub, Post.fin (Ot := []) S (by rw [List.append_nil]; exact Nxt.refl _ _ _) p3⟩
theorem two_pq {a : P} {k : Qe} {f : PV → PV → Option PV} {F : Fns} {σ : St} {H : Hp} {Q : VK} (h : rd T (relV T) W (fun env => ((B.p a).ev G F env).bind fun x env => ((B.e (.q k)).ev G F env).bind fun y env => R.of (f x y) env) σ H Q) :
    tOp (rTwo T f) (rdP T G a) (rdQ T G k) σ H Q := by
  obtain ⟨Hf, env, O, S, p⟩ := h
  refine ⟨Hf, env, O, S, ?_⟩
  dsimp only at p
  unfold B.ev at p
  split at p
  · rename_i i ks x el
    refine ⟨i, ks, x, el, fun v st fo => ⟨Hf, env, O, S, ?_⟩⟩
    dsimp only [R.bind] at p
    unfold E.ev at p
    cases e : k.ev G env with
    | none => rw [e] at p; exact p.elim
    | some y =>
      rw [e] at p
      refine ⟨y, rfl, fun u ru => ?_⟩
      obtain ⟨z, ez, p3⟩ := of_some (o := f x y) p
      obtain ⟨_, Pm, _, _, rx, _⟩ := fo.ex
      exact ⟨x, y, z, Hf, Pm, [], ez, rx, ru, S.sub, Post.fin (Ot := []) S (by rw [List.append_nil]; exact Nxt.refl _ _ _) p3⟩
  · exact p.elim
theorem op_two_bin {o : Operator} : OpR X (binaryOp o) (rTwo T (binP o)) := op_binP
theorem op_two_cmp {o : CmpOp} (hu : X.A.units + 64 < cLine) : OpR X (compareOp o) (rTwo T fun x y => (cmpP o x y).map .bl) := by
  intro pins s σ H v u vv uu Q I rv ru h
  obtain ⟨x, y, z, Hf, Ox, Oy, e, rx, ry, sub, f⟩ := h
  dsimp only at e
  cases ec : cmpP o x y with
  | none => rw [ec] at e; cases e
  | some c =>
    rw [ec] at e
    cases e
    exact op_cmpP (T := T) hu pins s σ H v u vv uu Q I rv ru ⟨x, y, c, Hf, Ox, Oy, ec, rx, ry, sub, f.sc sub fun _ _ => .bl c⟩

/-! ### lists of values -/
theorem rdEs_cons {me : DEnv → R PV} {ms : DEnv → R (List PV)} {σ : St} {H : Hp} {Q : List V → Hp → Prop} (h : rd T (relVs T) W (fun env => (me env).bind fun x env => (ms env).bind fun xs env => .ok (x :: xs) env) σ H Q) :
    tCons (rd T (relV T) W me) (rd T (relVs T) W ms) σ H Q := by
  obtain ⟨Hf, env, O, S, p⟩ := h
  refine ⟨Hf, env, O, S, Post.mono (Post.first S p) ?_⟩
  rintro v H1 ⟨x, Hf1, env1, O1, Ox, S1, rx, nx, dx, N1, p1⟩
  refine ⟨Hf1, env1, O1, S1, Post.mono (Post.step N1 nx dx rx.there p1) ?_⟩
  rintro vs H2 ⟨xs, Hf2, env2, O2, Oy, S2, ry, ny, dy, N2, kx, sf, p2⟩
  exact p2 _ H2 Hf2 O2 (Ox ++ Oy) S2 (.cons (rx.move sf kx) ry) ny dy N2
theorem rdEs_nil {σ : St} {H : Hp} {Q : List V → Hp → Prop} (h : rd T (relVs T) W (fun env => .ok [] env) σ H Q) : tNil σ H Q := by
  obtain ⟨Hf, env, O, S, p⟩ := h
  exact p [] H Hf O [] S .nil (by rw [List.append_nil]; exact S.nd) (fun _ h => nomatch h) (by rw [List.append_nil]; exact Nxt.refl _ _ _)
/-- arguments -/
abbrev relA (T : CTab) (as : As) : St → Hp → Hp → List (Option PV) → List V → List Addr → Prop := fun σ Hf H => ArgR T Hf H σ as
theorem rdAs_nil {σ : St} {H : Hp} {Q : List V → Hp → Prop} (h : rd T (relA T .nil) W (fun env => .ok [] env) σ H Q) : tNil σ H Q := by
  obtain ⟨Hf, env, O, S, p⟩ := h
  exact p [] H Hf O [] S .nil (by rw [List.append_nil]; exact S.nd) (fun _ h => nomatch h) (by rw [List.append_nil]; exact Nxt.refl _ _ _)
theorem rdAs_e {me : DEnv → R PV} {ms : DEnv → R (List (Option PV))} {frz : Bool} {e : E} {as : As} {σ : St} {H : Hp} {Q : List V → Hp → Prop}
    (h : rd T (relA T (.e frz e as)) W (fun env => (me env).bind fun x env => (ms env).bind fun xs env => .ok (some (if frz then x.frz else x) :: xs) env) σ H Q) :
    tCons (rd T (relV T) W me) (rd T (relA T as) W ms) σ H Q := by
  obtain ⟨Hf, env, O, S, p⟩ := h
  refine ⟨Hf, env, O, S, Post.mono (Post.first S p) ?_⟩
  rintro v H1 ⟨x, Hf1, env1, O1, Ox, S1, rx, nx, dx, N1, p1⟩
  refine ⟨Hf1, env1, O1, S1, Post.mono (Post.step N1 nx dx rx.there p1) ?_⟩
  rintro vs H2 ⟨xs, Hf2, env2, O2, Oy, S2, ry, ny, dy, N2, kx, sf, p2⟩
  cases frz with
  | false => exact p2 _ H2 Hf2 O2 (Ox ++ Oy) S2 (.val (rx.move sf kx) ry) ny dy N2
  | true =>
    have rx2 := rx.move sf kx
    have nx2 := ndl (ndr ny)
    have fs : Same Hf2 (frzH Hf2 H2 Ox) := frzH_same fun a ha => dy a (List.mem_append_left _ ha)
    have fz := rx2.frz (Q := Ox) (fun _ h => h) fs
    have dn : ∀ a, a ∉ Ox → frzH Hf2 H2 Ox a = Hf2 a := fun a ha => by unfold frzH; rw [if_neg ha]
    have z := p2 (v :: vs) H2 (frzH Hf2 H2 Ox) O2 Oy ⟨S2.rep.move fs fun _ _ => rfl, S2.nd, frzH_sub S2.sub, fun a ha => by
      rw [dn a fun z => ndx ny ha (List.mem_append_left _ z)]; exact S2.dis a ha⟩ ?_ ?_ ?_ ?_
    · exact z
    · have w := ArgR.val (f := true) (ee := e) fz (ry.move fs fun _ _ => rfl)
      exact w
    · exact ndm (ndl ny) (ndr (ndr ny)) fun a ha hb => ndx ny ha (List.mem_append_right _ hb)
    · intro a ha
      rw [dn a fun z => ndx (ndr ny) z ha]
      exact dy a (List.mem_append_right _ ha)
    · refine ⟨N2.sf.trans fs, N2.fr, fun a ha => N2.new a ?_, fun a ha => ?_⟩
      · exact (List.mem_append.mp ha).elim (List.mem_append_left _) fun z => List.mem_append_right _ (List.mem_append_right _ z)
      · rcases frzH_new ha with z | z
        · exact N2.fz a z
        · exact .inr (N2.new a (List.mem_append_right _ (List.mem_append_left _ z)))
theorem rdAs_mv {ms : DEnv → R (List (Option PV))} {i : Nat} {p : Pos} {as : As} {σ : St} {H : Hp} {Q : List V → Hp → Prop}
    (h : rd T (relA T (.mv i p as)) W (fun env => match env[i]? with
      | some (some _) => (ms env).bind fun xs env => .ok (none :: xs) env
      | _ => .bad) σ H Q) :
    tCons (tVar i) (rd T (relA T as) W ms) σ H Q := by
  obtain ⟨Hf, env, O, S, p⟩ := h
  dsimp only at p
  split at p
  · rename_i x ex
    obtain ⟨v, O1, Om, O2, f1, _⟩ := S.rep.focus ex
    refine ⟨v, f1, Hf, env, O, S, Post.mono (Post.first S p) ?_⟩
    rintro vs H1 ⟨xs, Hf1, env1, O1, Ox, S1, rx, nx, dx, N1, p1⟩
    exact p1 _ H1 Hf1 O1 Ox S1 (.mv f1 rx) nx dx N1
  · exact p.elim
end
end DN

set_option Elab.async false
set_option linter.all false
set_option maxRecDepth 100000
set_option maxHeartbeats 4000000
/-! DEN, part 9: further constructs of expressions, from their parts. -/
namespace DN
open PySem PySem.Spec PyProof.Rows L2
section
variable {T : CTab} {G : Prg} {N : List Str} {sc : Scope} {X : Cx} {W : WN}

theorem rd_not {m : DEnv → R PV} {σ : St} {H : Hp} {Q : VK} (h : rd T (relV T) W (fun env => (m env).bind fun x env => match x with
    | .bl b => .ok (.bl (!b)) env
    | _ => .bad) σ H Q) : tNotV (rd T (relV T) W m) σ H Q := by
  obtain ⟨Hf, env, O, S, p⟩ := h
  refine ⟨Hf, env, O, S, Post.mono (Post.first S p) ?_⟩
  rintro v H1 ⟨x, Hf1, env1, O1, Ox, S1, rx, nx, dx, N1, p1⟩
  cases x with
  | bl b => cases rx; exact ⟨b, rfl, (Post.fin S1 N1 p1).sc S1.sub fun _ _ => .bl _⟩
  | _ => exact p1.elim
theorem bind_ok {α : Type} (r : R α) : (r.bind fun x env => .ok x env) = r := by cases r <;> rfl
theorem rd_and {m : DEnv → R PV} {m2 : DEnv → R PV} {σ : St} {H : Hp} {Q : VK} (h : rd T (relV T) W (fun env => (m env).bind fun x env => match x with
    | .bl true => m2 env
    | .bl false => .ok (.bl false) env
    | _ => .bad) σ H Q) : tAndV (rd T (relV T) W m) (rd T (relV T) W m2) σ H Q := by
  obtain ⟨Hf, env, O, S, p⟩ := h
  refine ⟨Hf, env, O, S, Post.mono (Post.first S p) ?_⟩
  rintro v H1 ⟨x, Hf1, env1, O1, Ox, S1, rx, nx, dx, N1, p1⟩
  cases x with
  | bl b =>
    cases rx
    refine ⟨b, rfl, ?_⟩
    cases b with
    | false => exact (Post.fin S1 N1 p1).sc S1.sub fun _ _ => .bl _
    | true =>
      have p2 : Post T (relV T σ) (fun c => W c σ) σ H Hf O ((m2 env1).bind fun y env => .ok y env) Q := by rw [bind_ok]; exact p1
      refine ⟨Hf1, env1, O1, S1, Post.mono (Post.step N1 nx dx (fun _ h => nomatch h) p2) ?_⟩
      rintro u H2 ⟨y, Hf2, env2, O2, Oy, S2, ry, ny, dy, N2, kx, sf, p3⟩
      exact p3 u H2 Hf2 O2 Oy S2 ry ny dy N2
  | _ => exact p1.elim
theorem rd_or {m : DEnv → R PV} {m2 : DEnv → R PV} {σ : St} {H : Hp} {Q : VK} (h : rd T (relV T) W (fun env => (m env).bind fun x env => match x with
    | .bl true => .ok (.bl true) env
    | .bl false => m2 env
    | _ => .bad) σ H Q) : tOrV (rd T (relV T) W m) (rd T (relV T) W m2) σ H Q := by
  obtain ⟨Hf, env, O, S, p⟩ := h
  refine ⟨Hf, env, O, S, Post.mono (Post.first S p) ?_⟩
  rintro v H1 ⟨x, Hf1, env1, O1, Ox, S1, rx, nx, dx, N1, p1⟩
  cases x with
  | bl b =>
    cases rx
    refine ⟨b, rfl, ?_⟩
    cases b with
    | true => exact (Post.fin S1 N1 p1).sc S1.sub fun _ _ => .bl _
    | false =>
      have p2 : Post T (relV T σ) (fun c => W c σ) σ H Hf O ((m2 env1).bind fun y env => .ok y env) Q := by rw [bind_ok]; exact p1
      refine ⟨Hf1, env1, O1, S1, Post.mono (Post.step N1 nx dx (fun _ h => nomatch h) p2) ?_⟩
      rintro u H2 ⟨y, Hf2, env2, O2, Oy, S2, ry, ny, dy, N2, kx, sf, p3⟩
      exact p3 u H2 Hf2 O2 Oy S2 ry ny dy N2
  | _ => exact p1.elim
/-- a truth value on the way -/
theorem rd_then {α β : Type} {rel : St → Hp → Hp → α → β → List Addr → Prop} {t : DEnv → R Bool} {ma mb : DEnv → R α} {σ : St} {H : Hp} {Q : β → Hp → Prop}
    (h : rd T rel W (fun env => (t env).bind fun c env => if c then ma env else mb env) σ H Q) :
    rd T relB W t σ H fun c H1 => if c = true then rd T rel W ma σ H1 Q else rd T rel W mb σ H1 Q := by
  obtain ⟨Hf, env, O, S, p⟩ := h
  refine ⟨Hf, env, O, S, Post.mono (Post.first S p) ?_⟩
  rintro c H1 ⟨c', Hf1, env1, O1, Ox, S1, ⟨rc, eO⟩, nx, dx, N1, p1⟩
  subst rc eO
  have go : ∀ {m : DEnv → R α}, Post T (rel σ) (fun c => W c σ) σ H Hf O (m env1) Q → rd T rel W m σ H1 Q := fun {m} p1 => by
    have p2 : Post T (rel σ) (fun c => W c σ) σ H Hf O ((m env1).bind fun y env => .ok y env) Q := by rw [bind_ok]; exact p1
    refine ⟨Hf1, env1, O1, S1, Post.mono (Post.step (rel := rel σ) N1 nx dx (fun _ h => nomatch h) p2) ?_⟩
    rintro u H2 ⟨y, Hf2, env2, O2, Oy, S2, ry, ny, dy, N2, kx, sf, p3⟩
    exact p3 u H2 Hf2 O2 Oy S2 ry ny dy N2
  cases c' with
  | true => rw [if_pos rfl]; exact go p1
  | false => rw [if_neg Bool.false_ne_true]; exact go p1
theorem rd_ife {t : DEnv → R Bool} {ma mb : DEnv → R PV} {σ : St} {H : Hp} {Q : VK} (h : rd T (relV T) W (fun env => (t env).bind fun c env => if c then ma env else mb env) σ H Q) :
    tIf (rd T relB W t) (rd T (relV T) W ma) (rd T (relV T) W mb) σ H Q := rd_then h

/-! ### one operand -/
theorem one_v {m : DEnv → R PV} {f : PV → Option PV} {r : List V → Hp → VK → Prop} {σ : St} {H : Hp} {Q : VK} (hr : ∀ v x z Hf Ox H Q, f x = some z → Rep T Hf H x v Ox → Same Hf H → Fresh T H Hf z Q → r [v] H Q)
    (h : rd T (relV T) W (fun env => (m env).bind fun x env => R.of (f x) env) σ H Q) : tCB r (tCons (rd T (relV T) W m) tNil) σ H Q := by
  obtain ⟨Hf, env, O, S, p⟩ := h
  refine ⟨Hf, env, O, S, Post.mono (Post.first S p) ?_⟩
  rintro v H1 ⟨x, Hf1, env1, O1, Ox, S1, rx, nx, dx, N1, p1⟩
  obtain ⟨z, ez, p3⟩ := of_some p1
  exact hr v x z Hf1 Ox H1 Q ez rx S1.sub (Post.fin S1 N1 p3)
theorem one_p {b : P} {F : Fns} {f : PV → Option PV} {r : List V → Hp → VK → Prop} {σ : St} {H : Hp} {Q : VK} (hr : ∀ v x z Hf Ox H Q, f x = some z → Rep T Hf H x v Ox → Same Hf H → Fresh T H Hf z Q → r [v] H Q)
    (h : rd T (relV T) W (fun env => ((B.p b).ev G F env).bind fun x env => R.of (f x) env) σ H Q) : tCB r (tCons (rdP T G b) tNil) σ H Q := by
  obtain ⟨Hf, env, O, S, p⟩ := h
  dsimp only at p
  cases ea : b.loc G env with
  | none => rw [evp_none ea] at p; exact p.elim
  | some q =>
    obtain ⟨i, ks, x⟩ := q
    rw [evp_some ea] at p
    refine ⟨Hf, env, O, S, i, ks, x, ea, fun v st fo => ?_⟩
    obtain ⟨z, ez, p3⟩ := of_some (o := f x) p
    obtain ⟨_, Pm, _, _, rx, _⟩ := fo.ex
    exact hr v x z Hf Pm H Q ez rx S.sub (Post.fin (Ot := []) S (by rw [List.append_nil]; exact Nxt.refl _ _ _) p3)
theorem two_mono {ma mb : DEnv → R PV} {r : R2} {r' : V → V → Hp → Prop} {σ : St} {H : Hp} {Q : VK} (h : tOp r (rd T (relV T) W ma) (rd T (relV T) W mb) σ H Q) (k : ∀ v u H, r v u H Q → r' v u H) :
      rd T (relV T) W ma σ H (fun v H1 => rd T (relV T) W mb σ H1 fun u H2 => r' v u H2) := by
  obtain ⟨Hf, env, O, S, p⟩ := h
  refine ⟨Hf, env, O, S, Post.mono p ?_⟩
  rintro v H1 ⟨Hf1, env1, O1, S1, p1⟩
  exact ⟨Hf1, env1, O1, S1, Post.mono p1 fun u H2 q => k v u H2 q⟩
theorem two_f2 {ma mb : DEnv → R PV} {f : PV → PV → Option PV} {r : List V → Hp → VK → Prop} {σ : St} {H : Hp} {Q : VK} (hr : ∀ v u x y z Hf Ox Oy H Q, f x y = some z → Rep T Hf H x v Ox → Rep T Hf H y u Oy → Same Hf H → Fresh T H Hf z Q → r [v, u] H Q)
    (h : rd T (relV T) W (fun env => (ma env).bind fun x env => (mb env).bind fun y env => R.of (f x y) env) σ H Q) : tCB r (tCons (rd T (relV T) W ma) (tCons (rd T (relV T) W mb) tNil)) σ H Q := by
  have z := two_vv (T := T) h
  exact two_mono (T := T) z fun v u H ⟨x, y, z, Hf, Ox, Oy, e, rx, ry, s, f⟩ => hr v u x y z Hf Ox Oy H Q e rx ry s f
/-! ### displays -/
theorem rd_tup {m : DEnv → R (List PV)} {σ : St} {H : Hp} {Q : VK} (h : rd T (relV T) W (fun env => (m env).bind fun xs env => if flatP xs && sOk xs.length then .ok (.tup xs) env else .bad) σ H Q) :
    tTup (rd T (relVs T) W m) σ H Q := by
  obtain ⟨Hf, env, O, S, p⟩ := h
  refine ⟨Hf, env, O, S, Post.mono (Post.first S p) ?_⟩
  rintro vs H1 ⟨xs, Hf1, env1, O1, Ox, S1, rx, nx, dx, N1, p1⟩
  split at p1
  · rename_i hz
    rw [Bool.and_eq_true] at hz
    have e := rx.notOwn hz.1
    subst e
    exact ⟨by rw [← rx.len]; exact sOk_le hz.2, (Post.fin S1 N1 p1).tup S1.sub rx⟩
  · exact p1.elim
theorem rd_lst {m : DEnv → R (List PV)} {σ : St} {H : Hp} {Q : VK} (h : rd T (relV T) W (fun env => (m env).bind fun xs env => if sOk xs.length then .ok (.lst true xs) env else .bad) σ H Q) :
    tLst (rd T (relVs T) W m) σ H Q := by
  obtain ⟨Hf, env, O, S, p⟩ := h
  refine ⟨Hf, env, O, S, Post.mono (Post.first S p) ?_⟩
  rintro vs H1 ⟨xs, Hf1, env1, O1, Ox, S1, rx, nx, dx, N1, p1⟩
  split at p1
  · rename_i hz
    refine ⟨by rw [← rx.len]; exact sOk_le hz, fun q hq => ?_⟩
    have hne : ∀ {a : Addr}, (∃ o, H1 a = some o) → a ≠ q := fun ⟨o, e⟩ z => by subst z; rw [hq] at e; cases e
    have su := same_upd (o := .lst vs) hq
    refine p1 (.ref q) (upd H1 q (.lst vs)) Hf1 O1 (q :: Ox) ⟨S1.rep.move (Same.refl _) fun a ha => upd_ne (hne (S1.rep.there a ha)), S1.nd, S1.sub.trans su, S1.dis⟩
      (.lstO upd_same (rx.move (Same.refl _) fun a ha => upd_ne (hne (rx.there a ha)))) ?_ (fun a ha => ?_) ?_
    · refine ndm S1.nd (List.nodup_cons.mpr ⟨fun z => hne (rx.there q z) rfl, ndr nx⟩) fun a ha hb => ?_
      rcases List.mem_cons.mp hb with e | e
      · exact hne (S1.rep.there a ha) e
      · exact ndx nx ha e
    · rcases List.mem_cons.mp ha with e | e
      · subst e; exact Same.none' S1.sub hq
      · exact dx a e
    · refine N1.trans ⟨Same.refl _, fun b o _ e => su b o e, fun a ha => ?_, fun a ha => .inl ha⟩
      rcases List.mem_append.mp ha with e | e
      · exact .inl (List.mem_append_left _ e)
      · rcases List.mem_cons.mp e with e | e
        · subst e; exact .inr hq
        · exact .inl (List.mem_append_right _ e)
  · exact p1.elim

/-! ### an item of a temporary -/
theorem rd_ixE {m mk : DEnv → R PV} {K : PySem.W.Frag} {σ : St} {H : Hp} {Q : VK} (h : rd T (relV T) W (fun env => (m env).bind fun x env => (mk env).bind fun i env => match x, i with
    | .lst _ xs, .int n => match atI xs n with
      | some y => if y.own then .bad else .ok y env
      | none => .bad
    | .tup xs, .int n => R.of (atI xs n) env
    | _, _ => .bad) σ H Q) : tOp (rIx K) (rd T (relV T) W m) (rd T (relV T) W mk) σ H Q := by
  have at_ : ∀ {xs : List PV} {vs : List V} {Hf H : Hp} {O : List Addr} {n : Int} {y : PV}, Reps T Hf H xs vs O → atI xs n = some y → y.own = false → ∃ w, atI vs n = some w ∧ Rep T Hf H y w [] := fun {xs vs Hf H O n y} r e ho => by
    unfold atI at e
    cases q : ixN xs.length n with
    | none => rw [q] at e; cases e
    | some j =>
      rw [q] at e
      have e' : xs[j]? = some y := e
      obtain ⟨w, O1, Om, O2, e1, e2, e3, _⟩ := r.focus e'
      have z := e3.notOwn ho
      subst z
      refine ⟨w, ?_, e3⟩
      unfold atI
      rw [← r.len, q]
      exact e1
  obtain ⟨Hf, env, O, S, p⟩ := h
  refine ⟨Hf, env, O, S, Post.mono (Post.first S p) ?_⟩
  rintro v H1 ⟨x, Hf1, env1, O1, Ox, S1, rx, nx, dx, N1, p1⟩
  refine ⟨Hf1, env1, O1, S1, Post.mono (Post.step N1 nx dx rx.there p1) ?_⟩
  rintro u H2 ⟨i, Hf2, env2, O2, Oy, S2, ri, ny, dy, N2, kx, sf, p2⟩
  have rx2 := rx.move sf kx
  split at p2
  · rename_i o xs n
    split at p2
    · rename_i y ey
      split at p2
      · exact p2.elim
      · rename_i ho
        cases ri
        obtain ⟨a, vs, O', rfl, h1, r1⟩ := lst_any S2.sub rx2
        obtain ⟨w, e1, r2⟩ := at_ r1 ey (by simpa using ho)
        exact .inl ⟨a, vs, n, w, rfl, rfl, SqL.ofHO _ h1, e1, (Post.fin S2 N2 p2).old S2.sub r2⟩
    · exact p2.elim
  · rename_i xs n
    obtain ⟨y, ey, p3⟩ := of_some p2
    cases ri
    obtain ⟨a, vs, rfl, h1, r1⟩ := tup_at S2.sub rx2
    have ho : y.own = false := by
      unfold atI at ey
      cases q : ixN xs.length n with
      | none => rw [q] at ey; cases ey
      | some j =>
        rw [q] at ey
        have ey' : xs[j]? = some y := ey
        obtain ⟨w, _, r3⟩ := r1.at_ ey'
        cases hw : y.own with
        | false => rfl
        | true =>
          generalize hO : ([] : List Addr) = O' at r3
          cases r3 <;> first | (cases hw; done) | (cases hO; done)
    obtain ⟨w, e1, r2⟩ := at_ r1 ey ho
    exact .inr (.inl ⟨a, vs, n, w, rfl, rfl, SqT.ofHO _ h1, e1, (Post.fin S2 N2 p3).old S2.sub r2⟩)
  · exact p2.elim

/-! ### pop -/
theorem Reps.dropLast : ∀ {xs : List PV} {vs : List V} {O : List Addr} {Hf H : Hp}, Reps T Hf H xs vs O → ∃ O', Reps T Hf H xs.dropLast vs.dropLast O' ∧ O'.Sublist O
  | _, _, _, _, _, .nil => ⟨[], .nil, List.Sublist.slnil⟩
  | _, _, _, _, _, .cons h .nil => ⟨[], .nil, List.nil_sublist _⟩
  | _, _, _, _, _, .cons (O1 := Oa) h (.cons h2 r) => by
    obtain ⟨O', r', s⟩ := Reps.dropLast (.cons h2 r)
    exact ⟨Oa ++ O', .cons h r', List.Sublist.append (List.Sublist.refl _) s⟩
theorem rd_pop {b : P} {K : PySem.W.Frag} {σ : St} {H : Hp} {Q : VK} (h : rd T (relV T) W (fun env => match b.loc G env with
    | some (i, ks, .lst true xs) => match xs[xs.length - 1]? with
      | some y => if y.own then .bad else .ok y (setLoc env i ks (.lst true xs.dropLast))
      | none => .bad
    | _ => .bad) σ H Q) : tBM0 K "list" rPop (rdP T G b) σ H Q := by
  obtain ⟨Hf, env, O, S, p⟩ := h
  dsimp only at p
  split at p
  · rename_i i ks xs el
    split at p
    · rename_i y ey
      split at p
      · exact p.elim
      · rename_i ho
        refine ⟨Hf, env, O, S, i, ks, _, el, fun v st fo => ?_⟩
        obtain ⟨P1, Pm, P2, e1, rx, pl⟩ := fo.ex
        cases rx with
        | @lstO a _ vs Oc h1 r1 =>
          obtain ⟨w, Q1, Qm, Q2, f1, f2, f3, _⟩ := r1.focus ey
          have z := f3.notOwn (by simpa using ho)
          subst z
          obtain ⟨Od, rd, sd⟩ := r1.dropLast
          refine ⟨.inl ⟨rfl, vs, SqL.ofHO _ h1⟩, a, vs, w, rfl, rfl, h1, by rw [← r1.len]; exact f1, ?_⟩
          have nd := S.nd
          rw [e1] at nd
          have nda : ∀ c, c ∈ P1 ∨ c ∈ P2 ∨ c ∈ Oc → c ≠ a := fun c hc e => by
            subst e
            rcases hc with z | z | z
            · exact ndx nd z (List.mem_append_left _ List.mem_cons_self)
            · exact ndx (ndr nd) List.mem_cons_self z
            · exact (List.nodup_cons.mp (ndl (ndr nd))).1 z
          have r' := pl (Hf' := Hf) (H' := upd H a (.lst vs.dropLast)) (x' := .lst true xs.dropLast) (Om' := a :: Od) (Same.refl _) (fun c hc => upd_ne (nda c (hc.elim .inl fun z => .inr (.inl z)))) (.inl rfl)
            (.lstO upd_same (rd.move (Same.refl _) fun c hc => upd_ne (nda c (.inr (.inr (sd.subset hc))))))
          have sub' : (P1 ++ (a :: Od ++ P2)).Sublist O := by
            rw [e1]
            exact List.Sublist.append (List.Sublist.refl _) (List.Sublist.append (List.Sublist.cons₂ _ sd) (List.Sublist.refl _))
          have ha : a ∈ O := by rw [e1]; exact List.mem_append_right _ (List.mem_append_left _ List.mem_cons_self)
          refine p w _ Hf _ [] ⟨r', S.nd.sublist sub', fun c o e => ?_, fun c hc => S.dis c (sub'.subset hc)⟩ (f3.still (Same.refl _)) (by rw [List.append_nil]; exact S.nd.sublist sub') (fun _ h => nomatch h) ⟨Same.refl _, fun c o hc e => ?_, fun c hc => ?_, fun c hc => .inl hc⟩
          · have hca : c ≠ a := fun z => by subst z; rw [S.dis c ha] at e; cases e
            rw [upd_ne hca]
            exact S.sub c o e
          · rw [upd_ne fun z => hc (by rw [z]; exact ha)]
            exact e
          · rw [List.append_nil] at hc
            exact .inl (sub'.subset hc)
    · exact p.elim
  · exact p.elim
end
end DN

set_option Elab.async false
set_option linter.all false
set_option maxRecDepth 100000
set_option maxHeartbeats 4000000
/-! DEN, part 10: enumerate over a tuple; what loops walk; targets. -/
namespace DN
open PySem PySem.Spec PyProof.Rows L2

/-! ### enumerate(t), t a tuple -/
set_option maxHeartbeats 1000000 in
theorem enum_new1 {v : Value} {o : Obj} {Hh : Heap → Prop} (B : Begins v o Hh) :
    Meets (Builtin.«enumerate.__new__» ⟨[.type "enumerate", v], []⟩) (fun _ R s => Hh s.heap ∧
      R (.ok (.ret (.ref (s.heap.push o).objs.size))) { s with heap := (s.heap.push o).push { cls := .type "enumerate", data := .fields #[.none, .bool false, .ref s.heap.objs.size, rawInt 0, .none, .none] } }) :=
  .of_wp fun prog w A R s hh => by
    obtain ⟨hp, g, d, tk, os⟩ := s; obtain ⟨h1, h⟩ := hh
    have hsub := sub_enumerate
    have it0 : ∀ {A' : Around} {E : Value → Shared → Prop} {Q : Value → Shared → Prop}, Q (.ref hp.objs.size) ⟨hp.push o, g, d, tk, os⟩ → wpAny (model prog w) A' (pyIter v) Q E ⟨hp, g, d, tk, os⟩ :=
      fun q => B.iter prog w _ _ ⟨hp, g, d, tk, os⟩ _ h1 q
    wp_walk using it0
    refine wpAny_stack_any fun st => wpAny_pure ?_
    split
    · rename_i c _ _ _ _ _
      cases (c == Value.type "enumerate") <;> (wp_walk using it0; exact ⟨_, rfl, h⟩)
    · wp_walk using it0
      exact ⟨_, rfl, h⟩
section
variable {prog : Program} {w : World} {A : Around} {E : Value → Shared → Prop} {s : Shared}
theorem enum_call1 {v : Value} {o : Obj} {Hh : Heap → Prop} {Q : Value → Shared → Prop} (B : Begins v o Hh) (h1 : Hh s.heap)
    (h : ∀ h', IsEnum h' (s.heap.objs.size + 1) s.heap.objs.size 0 .none → h'.get? s.heap.objs.size = some o → (∀ b ob, s.heap.get? b = some ob → h'.get? b = some ob) → Q (.ref (s.heap.objs.size + 1)) { s with heap := h' }) :
    wpAny (model prog w) A (call (.type "enumerate") [v]) Q E s := by
  refine callType_new F.called_enumerate (by decide) (F.typeCall_enumerate_1 _) (F.newCall_enumerate_1 _) (fun obj => F.args_object_init_2 obj _) F.entry_enumerate_new (enum_new1 B) ⟨h1, ?_⟩
  have hz : (s.heap.push o).objs.size = s.heap.objs.size + 1 := Heap.size_push ..
  show _ ∧ _
  rw [hz]
  have he : IsEnum ((s.heap.push o).push { cls := .type "enumerate", data := .fields #[.none, .bool false, .ref s.heap.objs.size, rawInt 0, .none, .none] }) (s.heap.objs.size + 1) s.heap.objs.size 0 .none := by
    have z := Heap.get?_push_size (s.heap.push o) (o := { cls := .type "enumerate", data := .fields #[.none, .bool false, .ref s.heap.objs.size, rawInt 0, .none, .none] }) rfl
    rw [hz] at z; exact z
  exact ⟨⟨_, he, rfl⟩, h _ he (Heap.get?_push_of_some _ (Heap.get?_push_size _ B.free)) fun b ob x => Heap.get?_push_of_some _ (Heap.get?_push_of_some _ x)⟩
end
/-- the tuple at a, its items in new pairs with their numbers -/
def IteT (K : PySem.W.Frag) (a : Addr) : L2.It :=
  ⟨fun i H => ∃ (xs : List V) (x : V), SqT K H a xs ∧ xs[i]? = some x, fun i H v H' => ∃ P x, v = .ref P ∧ H P = none ∧ H' = upd H P (.tup [.int (i : Nat), x]) ∧ ∀ xs, SqT K H a xs → xs[i]? = some x, fun i H => ∃ xs : List V, SqT K H a xs ∧ xs.length ≤ i⟩
theorem turn_enumT {P : Program} {w : World} {K : PySem.W.Frag} {elts : List Expr} {kk : Nat} {tpos : Pos} (a e it : Addr) :
    Turn P w K (.Tuple elts kk tpos) (IteT K a) [e, it] e (fun i h => (∃ old, IsEnum h e it ((i : Nat) : Int) old) ∧ h.IsTupleIter it a i ∧ e ≠ it) where
  mem := by simp
  obj := fun i h st b hb => by
    obtain ⟨⟨old, he⟩, ⟨o, ho, hc, hd⟩, _⟩ := st
    rcases (by simpa using hb : b = e ∨ b = it) with z | z
    · rw [z]; exact ⟨_, he, fun v q => nomatch q⟩
    · rw [z]; exact ⟨o, ho, fun v q => by rw [hd] at q; cases q⟩
  keep := fun i h h' st k => by
    obtain ⟨⟨old, he⟩, hi, hne⟩ := st
    exact ⟨⟨old, k e (by simp) _ he⟩, hi.at fun o q => k it (by simp) o q, hne⟩
  item := by
    intro X hP hw hK hc i pins s σ H E I hf st hg
    subst hP hw hK
    obtain ⟨⟨old, he⟩, hit, hne⟩ := st
    obtain ⟨xs, x, hq, hx⟩ := hg
    obtain ⟨its, rv, p, hz⟩ := I.tuple hq
    obtain ⟨u, hu, ru⟩ := rv.get hx
    have hel : e < s.heap.objs.size := Heap.lt_size he
    have hil : it < s.heap.objs.size := by obtain ⟨_, q, _⟩ := hit; exact Heap.lt_size q
    have hal : s.heap.IsTuple a its.toArray := p
    have hai : a ≠ it := fun z => by
      subst z
      obtain ⟨o1, g1, g2, _⟩ := hit
      obtain ⟨o2, g3, g4, _⟩ := p
      rw [g1] at g3; cases g3; rw [g2] at g4; exact absurd (Value.type.inj g4) (by decide)
    have hae : a ≠ e := fun z => by
      subst z
      obtain ⟨o2, g3, g4, _⟩ := p
      have he' : s.heap.get? a = some _ := he
      rw [he'] at g3; cases g3; exact absurd (Value.type.inj g4) (by decide)
    have D := Draws.tuple (prog := X.prog) (w := X.w) (A := X.A.in1) (I.ok.hd hc) it a hai its.toArray
    have hlt : i < its.toArray.size := by
      have := (List.getElem?_eq_some_iff.mp hu).1
      simpa using this
    refine wpAny_pyNext_enum_itemD D he ⟨hit, hal⟩ hlt hne (by simp [hne, hae.symm]) fun y h' tk hP ho hit' hT hsz hk => ?_
    have ey : y = u := by
      have : its.toArray[i]? = some y := hP
      simp only [List.getElem?_toArray] at this
      rw [hu] at this
      exact (Option.some.inj this).symm
    subst ey
    refine ⟨_, rfl, wpAny_letOwnedTupleGo_enum (s := { s with heap := h', toks := tk + 1 }) ho fun h'' he' sb => ?_⟩
    have hT2 : h''.get? s.heap.objs.size = some { cls := .type "tuple", data := .seq #[.int i tk, y] } := (sb.2 _ (Nat.ne_of_gt hel)).trans hT
    have new : ObjOk X.prog X.w (upd H s.heap.objs.size (.tup [.int (i : Nat), x])) h'' s.heap.objs.size (.tup [.int (i : Nat), x]) :=
      ⟨by show 2 ≤ sizeLine; decide, [.int i tk, y], .cons ⟨_, rfl⟩ (.cons ru .nil), ⟨_, hT2, rfl, _, rfl⟩⟩
    have I1 : Inv X pins σ (upd H s.heap.objs.size (.tup [.int (i : Nat), x])) { s with heap := h'', toks := tk + 1 } :=
      I.turnedNew (ch := [e, it]) (fun b ob hb q => (sb.2 b (fun z => hb (by simp [z]))).trans (hk b ob (fun z => hb (by simp [z])) (fun z => hb (by simp [z])) q)) hf (Nat.le_refl _) new
    refine ⟨.ref s.heap.objs.size, _, I1, rfl, ⟨_, x, rfl, I.hok.fresh (Nat.le_refl _), rfl, fun ys hy => by rw [I.tuple_inj hy hq]; exact hx⟩, ⟨⟨y, ?_⟩, hit'.1.at fun o q => (sb.2 it (Ne.symm hne)).trans q, hne⟩, fun b hb => ?_⟩
    · have e1 : ((i + 1 : Nat) : Int) = (i : Int) + 1 := by omega
      rw [e1]; exact he'
    · have hb' : b < s.heap.objs.size := by
        rcases (by simpa using hb : b = e ∨ b = it) with z | z
        · rw [z]; exact hel
        · rw [z]; exact hil
      rw [upd_ne (Nat.ne_of_lt hb')]
      exact (hf b hb).1
  done := by
    intro X hP hw hK hc i pins s σ H E I hf st hg
    subst hP hw hK
    obtain ⟨⟨old, he⟩, hit, hne⟩ := st
    obtain ⟨xs, hq, hx⟩ := hg
    obtain ⟨its, rv, p, hz⟩ := I.tuple hq
    obtain ⟨f0, f1, f2, f3, f4, f5⟩ := hf it (by simp)
    have hl := rv.length
    have hT : s.TypeIs (.ref e) "enumerate" := ⟨_, he, rfl⟩
    unfold pyNext
    refine wpAny_bind (wpAny_attempt (wpAny_callSpecial?_slot (name := Str.ofString "__next__") hT F.slot_enumerate_next
      (wpAny_call_entry F.slot_enumerate_next hT F.entry_enumerate_next ?_ (F.args_enumerate_next_1 _))))
    show wpAny _ _ (field (.ref e) 2 >>= _) _ _ _
    refine wpAny_bind (wpAny_field he rfl (x := .ref it) rfl ?_)
    refine wpAny_bind (wpAny_nextOf_tuple_end (A := X.A.in1) (I.ok.hd hc) hit (show s.heap.IsTuple a its.toArray from p) (by simp; omega) fun h' x he' hx' => ?_)
    obtain ⟨o, ho, hcc⟩ := hx'
    refine wpAny_bind (wpAny_isInstance (T := "StopIteration") (b := true) ⟨o, ho, hcc⟩ isSubtype_stop ?_)
    exact wpAny_pure ⟨rfl, I.turned (t' := s.toks) (fun b o hb q => he' b o hb q) f0 f1 f3 f4 f5⟩
  self := fun A i s Q E st h => by
    obtain ⟨⟨_, he⟩, _⟩ := st
    exact wpAny_pyIter_enum he h
def iEnumT (K : PySem.W.Frag) (ta : TA) : TI := fun σ H R => ta σ H fun vs H1 => ∃ a xs, vs = [.ref a] ∧ SqT K H1 a xs ∧ R (IteT K a) H1
theorem pi_enumT {X : Cx} {e : Expr} {ta : TA} {p pos tpos : Pos} {elts : List Expr} {kk : Nat} (hg : Gl X "enumerate") (hm : X.mg "enumerate" = none) (ha : PA X [e] ta) (hs : starEach [e] X.env = [(false, eval e X.env)]) :
    PI X (.Tuple elts kk tpos) (.Call (.Name "enumerate" p) [e] [] pos) (iEnumT X.K ta) := by
  refine ⟨fun pins s σ H R I h => ?_⟩
  refine Call_ (ld_blt I hg hm boot_enumerate (PyProof.Rows.callWith_type1 (thn (ha.run pos pins s σ H _ I h) fun us s1 ⟨vs, H1, I1, r1, q1⟩ => ?_) hs rfl))
  obtain ⟨a, xs, ex, hq, q⟩ := q1
  subst ex
  cases r1 with
  | cons r rr =>
    cases rr
    cases r
    obtain ⟨its, rv, p', hz⟩ := I1.tuple hq
    have p2 : s1.heap.IsTuple a its.toArray := p'
    refine enum_call1 (begins_tuple a its.toArray) p2 fun h' he hit hk => wpAny_pyIter_enum he ?_
    have I2 : Inv X pins σ H1 { s1 with heap := h' } := I1.kept (t' := s1.toks) hk
    refine ⟨s1.heap.objs.size + 1, [s1.heap.objs.size + 1, s1.heap.objs.size], _, _, H1, rfl, I2, turn_enumT a (s1.heap.objs.size + 1) s1.heap.objs.size, ⟨⟨.none, he⟩, ⟨_, hit, rfl, rfl⟩, Nat.succ_ne_self _⟩, fun b hb => ?_, q⟩
    have hle : s1.heap.objs.size ≤ b := by
      rcases (by simpa using hb : b = s1.heap.objs.size + 1 ∨ b = s1.heap.objs.size) with z | z
      · rw [z]; exact Nat.le_add_right _ _
      · rw [z]; exact Nat.le_refl _
    exact I1.fpOk hle (I1.hok.fresh hle)
end DN

set_option Elab.async false
set_option linter.all false
set_option maxRecDepth 100000
set_option maxHeartbeats 4000000
/-! DEN, part 11: what loops walk; targets. -/
namespace DN
open PySem PySem.Spec PyProof.Rows L2

section
variable {T : CTab} {σ : St} {H Hf H0 Hf0 : Hp} {O O0 Ox : List Addr} {env : DEnv}
theorem frz_dis (d : ∀ a ∈ O, Hf a = none) (nd : ∀ a ∈ O, a ∉ Ox) : ∀ a ∈ O, frzH Hf H Ox a = none := fun a ha => by
  unfold frzH
  rw [if_neg (nd a ha)]
  exact d a ha
/-- what has come is frozen -/
theorem freeze {x : PV} {v : V} (S : ST T σ H Hf env O) (r : Rep T Hf H x v Ox) (nd : (O ++ Ox).Nodup) (dx : ∀ a ∈ Ox, Hf a = none) (n : Nxt H0 Hf0 O0 H Hf (O ++ Ox)) :
    ST T σ H (frzH Hf H Ox) env O ∧ Rep T (frzH Hf H Ox) H x.frz v [] ∧ Same Hf (frzH Hf H Ox) ∧ Nxt H0 Hf0 O0 H (frzH Hf H Ox) O := by
  have fs : Same Hf (frzH Hf H Ox) := frzH_same dx
  refine ⟨⟨S.rep.move fs fun _ _ => rfl, S.nd, frzH_sub S.sub, frz_dis S.dis fun a ha z => ndx nd ha z⟩, r.frz (fun _ h => h) fs, fs, n.sf.trans fs, n.fr, fun a ha => n.new a (List.mem_append_left _ ha), fun a ha => ?_⟩
  rcases frzH_new ha with z | z
  · exact n.fz a z
  · exact .inr (n.new a (List.mem_append_right _ z))
theorem nx0 {H Hf H' Hf' : Hp} {O O' : List Addr} (n : Nxt H Hf O H' Hf' O') : Nxt H Hf O H' Hf' (O' ++ []) := by rw [List.append_nil]; exact n
theorem nd0 {O : List Addr} (n : O.Nodup) : (O ++ []).Nodup := by rw [List.append_nil]; exact n
end

/-! ### a walk over items that are known ahead -/
structure ItOk (T : CTab) (J : L2.It) (Hf0 : Hp) (xs : List PV) : Prop where
  go : ∀ i Hf H, Same Hf0 Hf → Same Hf H → i < xs.length → J.go i H
  st : ∀ i Hf H, Same Hf0 Hf → Same Hf H → xs.length ≤ i → J.stop i H
  yl : ∀ i x Hf H v H', Same Hf0 Hf → Same Hf H → xs[i]? = some x → J.yld i H v H' →
    ∃ Hf', Same Hf Hf' ∧ Same H H' ∧ Same Hf' H' ∧ (∀ a, Hf' a ≠ none → Hf a ≠ none ∨ H a = none) ∧ Rep T Hf' H' x v []
abbrev relI (T : CTab) : St → Hp → Hp → List PV → L2.It → List Addr → Prop := fun _ Hf _ xs J O => O = [] ∧ ItOk T J Hf xs
section
variable {T : CTab} {Hf H : Hp} {xs : List PV} {vs : List V} {K : PySem.W.Frag} {a : Addr}
theorem getElem?_some_lt {α : Type} {l : List α} {i : Nat} (h : i < l.length) : ∃ x, l[i]? = some x := ⟨l[i], List.getElem?_eq_getElem h⟩
theorem itok_list (h : Hf a = some (.lst vs)) (r : Reps T Hf H xs vs []) : ItOk T (Itl K a) Hf xs where
  go := fun i Hf' H' s1 s2 hi => by
    obtain ⟨v, e⟩ := getElem?_some_lt (l := vs) (i := i) (by rw [← r.len]; exact hi)
    exact ⟨vs, v, SqL.ofHO _ (s2 _ _ (s1 _ _ h)), e⟩
  st := fun i Hf' H' s1 s2 hi => ⟨vs, SqL.ofHO _ (s2 _ _ (s1 _ _ h)), by rw [← r.len]; exact hi⟩
  yl := fun i x Hf' H' v H2 s1 s2 hx y => by
    obtain ⟨e, y⟩ := y
    subst e
    obtain ⟨w, ew, rw'⟩ := r.at_ hx
    have := y vs (SqL.ofHO _ (s2 _ _ (s1 _ _ h)))
    rw [ew] at this
    cases this
    exact ⟨Hf', Same.refl _, Same.refl _, s2, fun _ h => .inl h, rw'.still s1⟩
theorem itok_tup (h : Hf a = some (.tup vs)) (r : Reps T Hf H xs vs []) : ItOk T (Itt K a) Hf xs where
  go := fun i Hf' H' s1 s2 hi => by
    obtain ⟨v, e⟩ := getElem?_some_lt (l := vs) (i := i) (by rw [← r.len]; exact hi)
    exact ⟨vs, v, SqT.ofHO _ (s2 _ _ (s1 _ _ h)), e⟩
  st := fun i Hf' H' s1 s2 hi => ⟨vs, SqT.ofHO _ (s2 _ _ (s1 _ _ h)), by rw [← r.len]; exact hi⟩
  yl := fun i x Hf' H' v H2 s1 s2 hx y => by
    obtain ⟨e, y⟩ := y
    subst e
    obtain ⟨w, ew, rw'⟩ := r.at_ hx
    have := y vs (SqT.ofHO _ (s2 _ _ (s1 _ _ h)))
    rw [ew] at this
    cases this
    exact ⟨Hf', Same.refl _, Same.refl _, s2, fun _ h => .inl h, rw'.still s1⟩
theorem rangeP_at {lo : Int} {n i : Nat} {x : PV} (h : (rangeP lo n)[i]? = some x) : x = .int (lo + (i : Nat)) := by
  unfold rangeP at h
  rw [List.getElem?_map] at h
  cases q : (List.range n)[i]? with
  | none => rw [q] at h; cases h
  | some k =>
    rw [q] at h
    have hk : k = i := by
      obtain ⟨hl, e⟩ := List.getElem?_eq_some_iff.mp q
      rw [List.getElem_range] at e
      exact e.symm
    subst hk
    exact (Option.some.inj h).symm
theorem rangeC_at {lo c : Int} {n i : Nat} {x : PV} (h : (rangeC lo c n)[i]? = some x) : x = .int (lo + (i : Nat) * c) := by
  unfold rangeC at h
  rw [List.getElem?_map] at h
  cases q : (List.range n)[i]? with
  | none => rw [q] at h; cases h
  | some k =>
    rw [q] at h
    have hk : k = i := by
      obtain ⟨hl, e⟩ := List.getElem?_eq_some_iff.mp q
      rw [List.getElem_range] at e
      exact e.symm
    subst hk
    exact (Option.some.inj h).symm
theorem rangeP_len {lo : Int} {n : Nat} : (rangeP lo n).length = n := by unfold rangeP; rw [List.length_map, List.length_range]
theorem rangeC_len {lo c : Int} {n : Nat} : (rangeC lo c n).length = n := by unfold rangeC; rw [List.length_map, List.length_range]
theorem itok_r {lo : Int} {n : Nat} : ItOk T (Itr lo n) Hf (rangeP lo n) where
  go := fun i _ _ _ _ hi => by rw [rangeP_len] at hi; exact hi
  st := fun i _ _ _ _ hi => by rw [rangeP_len] at hi; exact hi
  yl := fun i x Hf' H' v H2 s1 s2 hx y => by
    obtain ⟨e, y⟩ := y
    subst e y
    rw [rangeP_at hx]
    exact ⟨Hf', Same.refl _, Same.refl _, s2, fun _ h => .inl h, .int _⟩
theorem itok_c {lo c : Int} {n : Nat} : ItOk T (Itc lo c n) Hf (rangeC lo c n) where
  go := fun i _ _ _ _ hi => by rw [rangeC_len] at hi; exact hi
  st := fun i _ _ _ _ hi => by rw [rangeC_len] at hi; exact hi
  yl := fun i x Hf' H' v H2 s1 s2 hx y => by
    obtain ⟨e, y⟩ := y
    subst e y
    rw [rangeC_at hx]
    exact ⟨Hf', Same.refl _, Same.refl _, s2, fun _ h => .inl h, .int _⟩
theorem enumFrom_len : ∀ (k : Nat) (xs : List PV), (enumFrom k xs).length = xs.length
  | _, [] => rfl
  | k, x :: xs => congrArg (· + 1) (enumFrom_len (k + 1) xs)
theorem enumFrom_at : ∀ (k : Nat) (xs : List PV) (i : Nat) (y : PV), (enumFrom k xs)[i]? = some y → ∃ x, xs[i]? = some x ∧ y = .tup [.int ((k + i : Nat) : Int), x]
  | _, [], i, y, h => by simp [enumFrom] at h
  | k, x :: xs, 0, y, h => by
    have h' : some (PV.tup [.int (k : Int), x]) = some y := h
    cases h'
    exact ⟨x, rfl, rfl⟩
  | k, x :: xs, i + 1, y, h => by
    obtain ⟨x', e1, e2⟩ := enumFrom_at (k + 1) xs i y h
    refine ⟨x', e1, ?_⟩
    rw [e2]
    have : k + 1 + i = k + (i + 1) := by omega
    rw [this]
theorem itok_pair {i : Nat} {x w : PV} {Hf' H' : Hp} {u : V} {P : Addr} (s2 : Same Hf' H') (hP : H' P = none) (rx : Rep T Hf' H' x u []) :
    ∃ Hf2, Same Hf' Hf2 ∧ Same H' (upd H' P (.tup [.int (i : Nat), u])) ∧ Same Hf2 (upd H' P (.tup [.int (i : Nat), u])) ∧ (∀ a, Hf2 a ≠ none → Hf' a ≠ none ∨ H' a = none) ∧ Rep T Hf2 (upd H' P (.tup [.int (i : Nat), u])) (.tup [.int ((0 + i : Nat) : Int), x]) (.ref P) [] := by
  have hf := Same.none' s2 hP
  refine ⟨upd Hf' P (.tup [.int (i : Nat), u]), same_upd hf, same_upd hP, same_upd2 s2, fun a h => ?_, .tup upd_same ?_⟩
  · by_cases ha : a = P
    · subst ha; exact .inr hP
    · rw [upd_ne ha] at h; exact .inl h
  · rw [Nat.zero_add]
    exact Reps.consN (.int _) (Reps.consN (rx.still (same_upd hf)) .nil)
theorem itok_enum (h : Hf a = some (.lst vs)) (r : Reps T Hf H xs vs []) : ItOk T (Ite K a) Hf (enumFrom 0 xs) where
  go := fun i Hf' H' s1 s2 hi => by
    rw [enumFrom_len] at hi
    obtain ⟨v, e⟩ := getElem?_some_lt (l := vs) (i := i) (by rw [← r.len]; exact hi)
    exact ⟨vs, v, SqL.ofHO _ (s2 _ _ (s1 _ _ h)), e⟩
  st := fun i Hf' H' s1 s2 hi => ⟨vs, SqL.ofHO _ (s2 _ _ (s1 _ _ h)), by rw [← r.len]; rw [enumFrom_len] at hi; exact hi⟩
  yl := fun i y Hf' H' v H2 s1 s2 hx yy => by
    obtain ⟨P, u, rfl, hP, rfl, k⟩ := yy
    obtain ⟨x, ex, rfl⟩ := enumFrom_at _ _ _ _ hx
    obtain ⟨w, ew, rw'⟩ := r.at_ ex
    have := k vs (SqL.ofHO _ (s2 _ _ (s1 _ _ h)))
    rw [ew] at this
    cases this
    exact itok_pair (w := x) s2 hP (rw'.still s1)
theorem itok_enumT (h : Hf a = some (.tup vs)) (r : Reps T Hf H xs vs []) : ItOk T (IteT K a) Hf (enumFrom 0 xs) where
  go := fun i Hf' H' s1 s2 hi => by
    rw [enumFrom_len] at hi
    obtain ⟨v, e⟩ := getElem?_some_lt (l := vs) (i := i) (by rw [← r.len]; exact hi)
    exact ⟨vs, v, SqT.ofHO _ (s2 _ _ (s1 _ _ h)), e⟩
  st := fun i Hf' H' s1 s2 hi => ⟨vs, SqT.ofHO _ (s2 _ _ (s1 _ _ h)), by rw [← r.len]; rw [enumFrom_len] at hi; exact hi⟩
  yl := fun i y Hf' H' v H2 s1 s2 hx yy => by
    obtain ⟨P, u, rfl, hP, rfl, k⟩ := yy
    obtain ⟨x, ex, rfl⟩ := enumFrom_at _ _ _ _ hx
    obtain ⟨w, ew, rw'⟩ := r.at_ ex
    have := k vs (SqT.ofHO _ (s2 _ _ (s1 _ _ h)))
    rw [ew] at this
    cases this
    exact itok_pair (w := x) s2 hP (rw'.still s1)
end

/-! ### lists and tuples walked -/
section
variable {X : Cx}
def iSeq (K : PySem.W.Frag) (tl : TE) : TI := fun σ H R => tl σ H fun x H1 => ∃ a, x = .ref a ∧ ((∃ xs, SqL K H1 a xs ∧ R (Itl K a) H1) ∨ ∃ xs, SqT K H1 a xs ∧ R (Itt K a) H1)
theorem pi_seq {tg l : Expr} {tl : TE} (hl : PE X l tl) : PI X tg l (iSeq X.K tl) := by
  refine ⟨fun pins s σ H R I h => ?_⟩
  refine thn (hl.run pins s σ H _ I h) fun v s1 ⟨x, H1, I1, r1, a, e, q⟩ => ?_
  subst e
  cases r1
  rcases q with ⟨xs, hq, q⟩ | ⟨xs, hq, q⟩
  · obtain ⟨its, rv, p, hz⟩ := I1.list hq
    refine wpAny_pyIter_list p.isList ?_
    refine ⟨s1.heap.objs.size, [s1.heap.objs.size], _, _, H1, rfl, I1.kept (t' := s1.toks) fun b o e => Heap.get?_push_of_some _ e, turn_list a _, ⟨_, Heap.get?_push_size _ rfl, rfl, rfl⟩, fun b hb => ?_, q⟩
    have e : b = s1.heap.objs.size := by simpa using hb
    subst e
    exact I1.fpOk (Nat.le_refl _) (I1.hok.fresh (Nat.le_refl _))
  · obtain ⟨its, rv, p, hz⟩ := I1.tuple hq
    refine wpAny_pyIter_tuple (show s1.heap.IsTuple a its.toArray from p) ?_
    refine ⟨s1.heap.objs.size, [s1.heap.objs.size], _, _, H1, rfl, I1.kept (t' := s1.toks) fun b o e => Heap.get?_push_of_some _ e, turn_tuple a _, ⟨_, Heap.get?_push_size _ rfl, rfl, rfl⟩, fun b hb => ?_, q⟩
    have e : b = s1.heap.objs.size := by simpa using hb
    subst e
    exact I1.fpOk (Nat.le_refl _) (I1.hok.fresh (Nat.le_refl _))
def iEnumS (K : PySem.W.Frag) (ta : TA) : TI := fun σ H R => ta σ H fun vs H1 => ∃ a, vs = [.ref a] ∧ ((∃ xs, SqL K H1 a xs ∧ R (Ite K a) H1) ∨ ∃ xs, SqT K H1 a xs ∧ R (IteT K a) H1)
theorem pi_enumS {e : Expr} {ta : TA} {p pos tpos : Pos} {elts : List Expr} {kk : Nat} (hg : Gl X "enumerate") (hm : X.mg "enumerate" = none) (ha : PA X [e] ta) (hs : starEach [e] X.env = [(false, eval e X.env)]) :
    PI X (.Tuple elts kk tpos) (.Call (.Name "enumerate" p) [e] [] pos) (iEnumS X.K ta) := by
  refine ⟨fun pins s σ H R I h => ?_⟩
  refine Call_ (ld_blt I hg hm boot_enumerate (PyProof.Rows.callWith_type1 (thn (ha.run pos pins s σ H _ I h) fun us s1 ⟨vs, H1, I1, r1, q1⟩ => ?_) hs rfl))
  obtain ⟨a, ex, q⟩ := q1
  subst ex
  cases r1 with
  | cons r rr =>
    cases rr
    cases r
    have fin : ∀ {h' : Heap}, (∀ b ob, s1.heap.get? b = some ob → h'.get? b = some ob) → ∀ b ∈ [s1.heap.objs.size + 1, s1.heap.objs.size], FpOk X pins H1 b := fun _ b hb => by
      have hle : s1.heap.objs.size ≤ b := by
        rcases (by simpa using hb : b = s1.heap.objs.size + 1 ∨ b = s1.heap.objs.size) with z | z
        · rw [z]; exact Nat.le_add_right _ _
        · rw [z]; exact Nat.le_refl _
      exact I1.fpOk hle (I1.hok.fresh hle)
    rcases q with ⟨xs, hq, q⟩ | ⟨xs, hq, q⟩
    · obtain ⟨its, rv, p', hz⟩ := I1.list hq
      refine call_enumerate_list p'.isList fun h' he hit hsz hk => wpAny_pyIter_enum he ?_
      have I2 : Inv X pins σ H1 { s1 with heap := h' } := I1.kept (t' := s1.toks) hk
      exact ⟨s1.heap.objs.size + 1, [s1.heap.objs.size + 1, s1.heap.objs.size], _, _, H1, rfl, I2, turn_enum a (s1.heap.objs.size + 1) s1.heap.objs.size, ⟨⟨.none, he⟩, hit, Nat.succ_ne_self _⟩, fin hk, q⟩
    · obtain ⟨its, rv, p', hz⟩ := I1.tuple hq
      have p2 : s1.heap.IsTuple a its.toArray := p'
      refine enum_call1 (begins_tuple a its.toArray) p2 fun h' he hit hk => wpAny_pyIter_enum he ?_
      have I2 : Inv X pins σ H1 { s1 with heap := h' } := I1.kept (t' := s1.toks) hk
      exact ⟨s1.heap.objs.size + 1, [s1.heap.objs.size + 1, s1.heap.objs.size], _, _, H1, rfl, I2, turn_enumT a (s1.heap.objs.size + 1) s1.heap.objs.size, ⟨⟨.none, he⟩, ⟨_, hit, rfl, rfl⟩, Nat.succ_ne_self _⟩, fin hk, q⟩
end
section
variable {T : CTab} {W : WN} {σ : St} {H : Hp} {R : L2.It → Hp → Prop} {K : PySem.W.Frag}
theorem rdI_e {m : DEnv → DN.R PV} (h : rd T (relI T) W (fun env => (m env).bind fun x env => match x with
    | .lst _ xs => .ok (frzs xs) env
    | .tup xs => .ok xs env
    | _ => .bad) σ H R) : iSeq K (rd T (relV T) W m) σ H R := by
  obtain ⟨Hf, env, O, S, p⟩ := h
  refine ⟨Hf, env, O, S, Post.mono (Post.first S p) ?_⟩
  rintro v H1 ⟨x, Hf1, env1, O1, Ox, S1, rx, nx, dx, N1, p1⟩
  split at p1
  · rename_i o xs
    obtain ⟨S2, rf, sf, N2⟩ := freeze S1 rx nx dx N1
    cases rf with
    | lstF h r => exact ⟨_, rfl, .inl ⟨_, SqL.ofHO _ (S2.sub _ _ h), p1 (Itl K _) H1 _ O1 [] S2 ⟨rfl, itok_list h r⟩ (nd0 S2.nd) (fun _ h => nomatch h) (nx0 N2)⟩⟩
  · rename_i xs
    cases rx with
    | tup h r => exact ⟨_, rfl, .inr ⟨_, SqT.ofHO _ (S1.sub _ _ h), p1 (Itt K _) H1 _ O1 [] S1 ⟨rfl, itok_tup h r⟩ nx (fun _ h => nomatch h) N1⟩⟩
  · exact p1.elim
theorem rdI_enum {m : DEnv → DN.R PV} (h : rd T (relI T) W (fun env => (m env).bind fun x env => match x with
    | .lst _ xs => .ok (enumFrom 0 (frzs xs)) env
    | .tup xs => .ok (enumFrom 0 xs) env
    | _ => .bad) σ H R) : iEnumS K (tCons (rd T (relV T) W m) tNil) σ H R := by
  obtain ⟨Hf, env, O, S, p⟩ := h
  refine ⟨Hf, env, O, S, Post.mono (Post.first S p) ?_⟩
  rintro v H1 ⟨x, Hf1, env1, O1, Ox, S1, rx, nx, dx, N1, p1⟩
  split at p1
  · rename_i o xs
    obtain ⟨S2, rf, sf, N2⟩ := freeze S1 rx nx dx N1
    cases rf with
    | lstF h r => exact ⟨_, rfl, .inl ⟨_, SqL.ofHO _ (S2.sub _ _ h), p1 (Ite K _) H1 _ O1 [] S2 ⟨rfl, itok_enum h r⟩ (nd0 S2.nd) (fun _ h => nomatch h) (nx0 N2)⟩⟩
  · rename_i xs
    cases rx with
    | tup h r => exact ⟨_, rfl, .inr ⟨_, SqT.ofHO _ (S1.sub _ _ h), p1 (IteT K _) H1 _ O1 [] S1 ⟨rfl, itok_enumT h r⟩ nx (fun _ h => nomatch h) N1⟩⟩
  · exact p1.elim
theorem rgOk_le {i : Int} (h : rgOk i = true) : -(2 ^ 62) ≤ i ∧ i < 2 ^ 62 := by
  unfold rgOk at h
  rw [Bool.and_eq_true] at h
  exact ⟨of_decide_eq_true h.1, of_decide_eq_true h.2⟩
theorem rdI_r1 {m : DEnv → DN.R PV} (h : rd T (relI T) W (fun env => (m env).bind fun x env => match x with
    | .int n => if rgOk n then .ok (rangeP 0 n.toNat) env else .bad
    | _ => .bad) σ H R) : iRng1 (tCons (rd T (relV T) W m) tNil) σ H R := by
  obtain ⟨Hf, env, O, S, p⟩ := h
  refine ⟨Hf, env, O, S, Post.mono (Post.first S p) ?_⟩
  rintro v H1 ⟨x, Hf1, env1, O1, Ox, S1, rx, nx, dx, N1, p1⟩
  split at p1
  · rename_i n
    split at p1
    · rename_i hr
      cases rx
      obtain ⟨a, b⟩ := rgOk_le hr
      exact ⟨n, rfl, a, b, p1 (Itr 0 _) H1 _ O1 [] S1 ⟨rfl, itok_r⟩ nx (fun _ h => nomatch h) N1⟩
    · exact p1.elim
  · exact p1.elim
theorem rdI_r2 {m m2 : DEnv → DN.R PV} (h : rd T (relI T) W (fun env => (m env).bind fun x env => (m2 env).bind fun y env => match x, y with
    | .int i, .int j => if rgOk i && rgOk j then .ok (rangeP i (j - i).toNat) env else .bad
    | _, _ => .bad) σ H R) : iRng2 (tCons (rd T (relV T) W m) (tCons (rd T (relV T) W m2) tNil)) σ H R := by
  obtain ⟨Hf, env, O, S, p⟩ := h
  refine ⟨Hf, env, O, S, Post.mono (Post.first S p) ?_⟩
  rintro v H1 ⟨x, Hf1, env1, O1, Ox, S1, rx, nx, dx, N1, p1⟩
  refine ⟨Hf1, env1, O1, S1, Post.mono (Post.step N1 nx dx rx.there p1) ?_⟩
  rintro u H2 ⟨y, Hf2, env2, O2, Oy, S2, ry, ny, dy, N2, kx, sf, p2⟩
  have rx2 := rx.move sf kx
  split at p2
  · rename_i i j
    split at p2
    · rename_i hr
      rw [Bool.and_eq_true] at hr
      cases rx2
      cases ry
      obtain ⟨a, b⟩ := rgOk_le hr.1
      obtain ⟨c, d⟩ := rgOk_le hr.2
      exact ⟨i, j, rfl, ⟨a, b, c, d⟩, p2 (Itr i _) H2 _ O2 [] S2 ⟨rfl, itok_r⟩ ny (fun _ h => nomatch h) N2⟩
    · exact p2.elim
  · exact p2.elim
theorem rdI_r3 {m m2 m3 : DEnv → DN.R PV} (h : rd T (relI T) W (fun env => (m env).bind fun x env => (m2 env).bind fun y env => (m3 env).bind fun z env => match x, y, z with
    | .int i, .int j, .int (-1) => if rgOk i && rgOk j then .ok (rangeC i (-1) (i - j).toNat) env else .bad
    | _, _, _ => .bad) σ H R) : iRng3 (tCons (rd T (relV T) W m) (tCons (rd T (relV T) W m2) (tCons (rd T (relV T) W m3) tNil))) σ H R := by
  obtain ⟨Hf, env, O, S, p⟩ := h
  refine ⟨Hf, env, O, S, Post.mono (Post.first S p) ?_⟩
  rintro v H1 ⟨x, Hf1, env1, O1, Ox, S1, rx, nx, dx, N1, p1⟩
  refine ⟨Hf1, env1, O1, S1, Post.mono (Post.step N1 nx dx rx.there p1) ?_⟩
  rintro u H2 ⟨y, Hf2, env2, O2, Oy, S2, ry, ny, dy, N2, kx, sf, p2⟩
  have rx2 := rx.move sf kx
  refine ⟨Hf2, env2, O2, S2, Post.mono (Post.step (Ot := Ox ++ Oy) N2 ny dy (fun a ha => (List.mem_append.mp ha).elim (rx2.there a) (ry.there a)) p2) ?_⟩
  rintro w H3 ⟨z, Hf3, env3, O3, Oz, S3, rz, nz, dz, N3, kz, sz, p3⟩
  have rx3 := rx2.move sz fun a ha => kz a (List.mem_append_left _ ha)
  have ry3 := ry.move sz fun a ha => kz a (List.mem_append_right _ ha)
  split at p3
  · rename_i i j
    split at p3
    · rename_i hr
      rw [Bool.and_eq_true] at hr
      cases rx3
      cases ry3
      cases rz
      obtain ⟨a, b⟩ := rgOk_le hr.1
      obtain ⟨c, d⟩ := rgOk_le hr.2
      exact ⟨i, j, -1, _, rfl, RgC.neg a b c d, p3 (Itc i (-1) _) H3 _ O3 [] S3 ⟨rfl, itok_c⟩ nz (fun _ h => nomatch h) N3⟩
    · exact p3.elim
  · exact p3.elim
end

/-! ### targets -/
def stB (sc : Scope) (x : Str) : Bool := (sc.names.lookup x == some .local) || (sc.names.lookup x == some .cell)
def stAt (N : List Str) (sc : Scope) (i : Nat) : Bool := match N[i]? with
  | some x => stB sc x
  | none => false
def Tg.wf (N : List Str) (sc : Scope) : Tg → Bool
  | .one i _ => stAt N sc i
  | .tup is _ _ => is.all fun x => stAt N sc x.1
/-- stores to the names of s2 are allowed -/
def StOk (s2 sc : Scope) (X : Cx) : Prop := ∀ x, stB s2 x = true → Loc sc x ∧ (X.fn x = true ∨ sc.names.lookup x = some .local)
section
variable {T : CTab} {G : Prg} {N : List Str} {s2 sc : Scope} {X : Cx} {Hf H : Hp}
theorem stB_loc {x : Str} (h : stB sc x = true) : Loc sc x := by
  unfold stB at h
  rw [Bool.or_eq_true] at h
  exact h.imp (fun z => by simpa using z) fun z => by simpa using z
theorem pg_slot (C : XC T G N sc X) (so : StOk s2 sc X) {i : Nat} {p : Pos} (w : stAt N s2 i = true) : PG X (.Name (N.getD i "") p) (gName i) := by
  unfold stAt at w
  cases q : N[i]? with
  | none => rw [q] at w; cases w
  | some x =>
    rw [q] at w
    have e : Expr.Name (N.getD i "") p = .Name x p := by
      rw [List.getD_eq_getElem?_getD, q]; rfl
    rw [e]
    exact pg_name (by rw [C.eN]; exact C.nd) (by rw [C.eN]; exact q) (by rw [C.sc]; exact (so x w).1) (by rw [C.sc]; exact (so x w).2)
def gIs : List (Nat × Pos) → TGs
  | [] => gNil
  | (i, _) :: is => gCons (gName i) (gIs is)
theorem pgs_is (C : XC T G N sc X) (so : StOk s2 sc X) : ∀ (is : List (Nat × Pos)), (is.all fun x => stAt N s2 x.1) = true → PGs X (is.map fun x => .Name (N.getD x.1 "") x.2) (gIs is)
  | [], _ => pgs_nil
  | (i, p) :: is, w => by
    rw [List.all_cons, Bool.and_eq_true] at w
    exact pgs_cons (pg_slot C so w.1) (pgs_is C so is w.2)
theorem each_len (env : Env) : ∀ (is : List (Nat × Pos)), (assignEach (is.map fun x => .Name (N.getD x.1 "") x.2) env).length = is.length
  | [] => rfl
  | (i, p) :: is => congrArg (· + 1) (each_len env is)
theorem each_star (env : Env) : ∀ (is : List (Nat × Pos)), (assignEach (is.map fun x => .Name (N.getD x.1 "") x.2) env).findIdx? (·.1) = none
  | [] => rfl
  | (i, p) :: is => by
    have e : assignEach (((i, p) :: is).map fun x => .Name (N.getD x.1 "") x.2) env = (false, assign (.Name (N.getD i "") p) env) :: assignEach (is.map fun x => .Name (N.getD x.1 "") x.2) env := rfl
    rw [e, List.findIdx?_cons, each_star env is]
    rfl
def gTg (K : PySem.W.Frag) : Tg → TG
  | .one i _ => gName i
  | .tup is _ _ => gTup K is.length (gIs is)
theorem pg_tg (C : XC T G N sc X) (so : StOk s2 sc X) : ∀ (tg : Tg), tg.wf N s2 = true → PG X (tg.emb N) (gTg X.K tg)
  | .one i p, w => pg_slot C so w
  | .tup is k p, w => pg_tup C.calm (pgs_is C so is w) (each_len _ is) (each_star _ is)
theorem EnvR.put' {e : DEnv} {s : St} {O : List Addr} {k : Nat} {x : PV} {v : V} {Ox : List Addr} (r : EnvR T Hf H e s O) (hx : Rep T Hf H x v Ox) (nd : (O ++ Ox).Nodup) :
    ∃ O', EnvR T Hf H (e.set k (some x)) (s.set k (some v)) O' ∧ O'.Nodup ∧ ∀ a ∈ O', a ∈ O ∨ a ∈ Ox := by
  by_cases h : k < e.length
  · exact r.put hx nd h
  · rw [List.set_eq_of_length_le (by omega), List.set_eq_of_length_le (by rw [← r.len]; omega)]
    exact ⟨O, r, ndl nd, fun _ h => .inl h⟩
theorem ST.put {σ : St} {env : DEnv} {O Ox : List Addr} {x : PV} {v : V} {i : Nat} (S : ST T σ H Hf env O) (r : Rep T Hf H x v Ox) (nd : (O ++ Ox).Nodup) (dx : ∀ a ∈ Ox, Hf a = none) :
    ∃ O', ST T (σ.set i (some v)) H Hf (env.set i (some x)) O' ∧ ∀ a ∈ O', a ∈ O ∨ a ∈ Ox := by
  obtain ⟨O', r', n', s'⟩ := S.rep.put' r nd
  exact ⟨O', ⟨r', n', S.sub, fun a ha => (s' a ha).elim (S.dis a) (dx a)⟩, s'⟩
theorem is_put : ∀ (is : List (Nat × Pos)) {xs : List PV} {vs : List V} {σ : St} {env env' : DEnv} {O : List Addr} {Q : St → Hp → Prop}, ST T σ H Hf env O → Reps T Hf H xs vs [] → setTup is xs env = some env' →
    (∀ σ' O', ST T σ' H Hf env' O' → (∀ a ∈ O', a ∈ O) → σ'.length = σ.length → (∀ j, j ∉ is.map (·.1) → σ'[j]? = σ[j]?) → Q σ' H) → gIs is vs σ H Q ∧ vs.length = is.length
  | [], [], [], σ, env, env', O, Q, S, _, e, k => by
    cases e
    exact ⟨⟨rfl, k σ O S (fun _ h => h) rfl fun _ _ => rfl⟩, rfl⟩
  | (i, p) :: is, x :: xs, v :: vs, σ, env, env', O, Q, S, r, e, k => by
    obtain ⟨O1, S1, s1⟩ := S.put (i := i) r.nil_parts.1 (nd0 S.nd) (fun _ h => nomatch h)
    have z := is_put is (Q := Q) S1 r.nil_parts.2 e fun σ' O' S' s' l' k' => k σ' O' S' (fun a ha => (s1 a (s' a ha)).elim id fun h => nomatch h) (by rw [l', List.length_set]) fun j hj => by
      have hj' : ¬ (j = i ∨ j ∈ is.map (·.1)) := by simpa using hj
      rw [k' j fun z => hj' (.inr z), List.getElem?_set_ne fun z => hj' (.inl z.symm)]
    exact ⟨⟨v, vs, rfl, z.1⟩, congrArg (· + 1) z.2⟩
  | [], _ :: _, _, _, _, _, _, _, _, _, e, _ => by cases e
  | _ :: _, [], _, _, _, _, _, _, _, _, e, _ => by cases e
  | [], [], _ :: _, _, _, _, _, _, _, r, _, _ => nomatch r.len
  | _ :: _, _ :: _, [], _, _, _, _, _, _, r, _, _ => nomatch r.len
def Tg.vars : Tg → List Nat
  | .one i _ => [i]
  | .tup is _ _ => is.map (·.1)
/-- a target takes x -/
theorem tg_put {K : PySem.W.Frag} {tg : Tg} {x : PV} {v : V} {σ : St} {env env' : DEnv} {O : List Addr} {Q : St → Hp → Prop} (S : ST T σ H Hf env O) (r : Rep T Hf H x v []) (e : tg.put x env = some env')
    (k : ∀ σ' O', ST T σ' H Hf env' O' → (∀ a ∈ O', a ∈ O) → σ'.length = σ.length → (∀ j, j ∉ tg.vars → σ'[j]? = σ[j]?) → Q σ' H) : gTg K tg v σ H Q := by
  cases tg with
  | one i p =>
    unfold Tg.put at e
    dsimp only at e
    split at e
    · cases e
    · cases e
      obtain ⟨O1, S1, s1⟩ := S.put (i := i) r (nd0 S.nd) (fun _ h => nomatch h)
      exact k _ O1 S1 (fun a ha => (s1 a ha).elim id fun h => nomatch h) (by rw [List.length_set]) fun j hj => List.getElem?_set_ne fun z => hj (by rw [← z]; exact List.mem_singleton.mpr rfl)
  | tup is kk p =>
    unfold Tg.put at e
    dsimp only at e
    split at e
    · rename_i xs
      cases r with
      | tup h r =>
        obtain ⟨z, l⟩ := is_put is (Q := Q) S r e k
        exact ⟨_, _, rfl, SqT.ofHO _ (S.sub _ _ h), l, z⟩
    · cases e
end
end DN

set_option Elab.async false
set_option linter.all false
set_option maxRecDepth 100000
set_option maxHeartbeats 4000000
/-! DEN, part 12: list comprehensions. -/
namespace DN
open PySem PySem.Spec PyProof.Rows L2

section
variable {T : CTab} {σ : St} {H Hf H1 Hf1 H2 Hf2 : Hp} {O O1 O2 Ot Oy : List Addr} {env : DEnv}
/-- what is kept beside a part of a run -/
theorem side (N1 : Nxt H Hf O H1 Hf1 (O1 ++ Ot)) (nd : (O1 ++ Ot).Nodup) (dt : ∀ a ∈ Ot, Hf1 a = none) (tt : ∀ a ∈ Ot, ∃ o, H1 a = some o) (ndy : (O2 ++ Oy).Nodup) (dy : ∀ a ∈ Oy, Hf2 a = none) (n : Nxt H1 Hf1 O1 H2 Hf2 (O2 ++ Oy)) :
    (O2 ++ (Ot ++ Oy)).Nodup ∧ (∀ a ∈ Ot ++ Oy, Hf2 a = none) ∧ Nxt H Hf O H2 Hf2 (O2 ++ (Ot ++ Oy)) ∧ ∀ a ∈ Ot, H2 a = H1 a := by
  have dj : ∀ a ∈ Ot, a ∉ O1 := fun a ha z => ndx nd z ha
  have n' : Nxt H1 Hf1 (O1 ++ Ot) H2 Hf2 (O2 ++ (Ot ++ Oy)) := ⟨n.sf, fun b o hb => n.fr b o fun z => hb (List.mem_append_left _ z), fun a ha => by
    rcases List.mem_append.mp ha with z | z
    · exact (n.new a (List.mem_append_left _ z)).imp (List.mem_append_left _) id
    · rcases List.mem_append.mp z with z | z
      · exact .inl (List.mem_append_right _ z)
      · exact (n.new a (List.mem_append_right _ z)).imp (List.mem_append_left _) id, fun a ha => (n.fz a ha).imp id fun z => z.imp (List.mem_append_left _) id⟩
  refine ⟨nodup3 ndy (ndr nd) fun a ha => ?_, fun a ha => ?_, N1.trans n', fun a ha => ?_⟩
  · obtain ⟨o, e⟩ := tt a ha
    have no : a ∉ O2 ++ Oy := fun z => (n.new a z).elim (dj a ha) fun z => by rw [e] at z; cases z
    exact ⟨fun z => no (List.mem_append_left _ z), fun z => no (List.mem_append_right _ z)⟩
  · rcases List.mem_append.mp ha with ha | ha
    · cases q : Hf2 a with
      | none => rfl
      | some o =>
        obtain ⟨o', e⟩ := tt a ha
        rcases n.fz a (by rw [q]; exact fun z => nomatch z) with z | z | z
        · exact absurd (dt a ha) z
        · exact absurd z (dj a ha)
        · rw [e] at z; cases z
    · exact dy a ha
  · obtain ⟨o, e⟩ := tt a ha
    rw [e]
    exact n.fr a o (dj a ha) e
/-- the state carried to a heap with more in it -/
theorem ST.grow (S : ST T σ H Hf env O) (sf : Same Hf Hf2) (sh : Same H H2) (sub : Same Hf2 H2) (fz : ∀ a, Hf2 a ≠ none → Hf a ≠ none ∨ H a = none) : ST T σ H2 Hf2 env O := by
  refine ⟨S.rep.move sf fun a ha => ?_, S.nd, sub, fun a ha => ?_⟩
  · obtain ⟨o, e⟩ := S.rep.there a ha
    rw [e]; exact sh a o e
  · cases q : Hf2 a with
    | none => rfl
    | some o =>
      rcases fz a (by rw [q]; exact fun z => nomatch z) with z | z
      · exact absurd (S.dis a ha) z
      · obtain ⟨o', e⟩ := S.rep.there a ha
        rw [e] at z; cases z
theorem grow_dis {a : Addr} {o : HO} (d : Hf a = none) (h : H a = some o) (fz : ∀ a, Hf2 a ≠ none → Hf a ≠ none ∨ H a = none) : Hf2 a = none := by
  cases q : Hf2 a with
  | none => rfl
  | some o' =>
    rcases fz a (by rw [q]; exact fun z => nomatch z) with z | z
    · exact absurd d z
    · rw [h] at z; cases z
theorem Nxt.grow (n : Nxt H Hf O H1 Hf1 O1) (sf : Same Hf1 Hf2) (sh : Same H1 H2) (fz : ∀ a, Hf2 a ≠ none → Hf1 a ≠ none ∨ H1 a = none) : Nxt H Hf O H2 Hf2 O1 :=
  n.trans ⟨sf, fun b o _ e => sh b o e, fun _ h => .inl h, fun a h => (fz a h).imp id .inr⟩

/-! ### a block's own slots -/
theorem EnvR.wipe {e : DEnv} {s : St} (r : EnvR T Hf H e s O) (nd : O.Nodup) : ∀ (is : List Nat), ∃ O', EnvR T Hf H (wipeE e is) (L2.wipe s is) O' ∧ O'.Nodup ∧ ∀ a ∈ O', a ∈ O
  | [] => ⟨O, r, nd, fun _ h => h⟩
  | i :: is => by
    obtain ⟨O1, r1, n1, s1⟩ := r.wipe nd is
    obtain ⟨O2, r2, n2, s2⟩ := r1.clear i none n1
    exact ⟨O2, r2, n2, fun a ha => s1 a (s2 a ha)⟩
theorem ST.wipe (S : ST T σ H Hf env O) (is : List Nat) : ∃ O', ST T (L2.wipe σ is) H Hf (wipeE env is) O' ∧ ∀ a ∈ O', a ∈ O := by
  obtain ⟨O', r, n, s⟩ := S.rep.wipe S.nd is
  exact ⟨O', ⟨r, n, S.sub, fun a ha => S.dis a (s a ha)⟩, s⟩
theorem wipe_at : ∀ (is : List Nat) (s : St) (j : Nat), (L2.wipe s is)[j]? = if j ∈ is ∧ j < s.length then some none else s[j]?
  | [], s, j => by
    show s[j]? = _
    rw [if_neg fun h => nomatch h.1]
  | i :: is, s, j => by
    show ((L2.wipe s is).set i none)[j]? = _
    rw [List.getElem?_set, wipe_at is s j, wipe_length]
    by_cases h : i = j
    · subst h
      rw [if_pos rfl]
      by_cases hl : i < s.length
      · rw [if_pos hl, if_pos ⟨List.mem_cons_self, hl⟩]
      · rw [if_neg hl, if_neg fun z => hl z.2, List.getElem?_eq_none (by omega)]
    · rw [if_neg h]
      by_cases hl : j ∈ is ∧ j < s.length
      · rw [if_pos hl, if_pos ⟨List.mem_cons_of_mem _ hl.1, hl.2⟩]
      · rw [if_neg hl, if_neg fun z => hl ⟨(List.mem_cons.mp z.1).resolve_left fun e => h e.symm, z.2⟩]
theorem wipe_eq {is : List Nat} {s s' : St} (hl : s'.length = s.length) (h : ∀ j, j ∉ is → s'[j]? = s[j]?) : L2.wipe s' is = L2.wipe s is := by
  apply List.ext_getElem?
  intro j
  rw [wipe_at, wipe_at, hl]
  by_cases hj : j ∈ is
  · by_cases hl' : j < s.length
    · rw [if_pos ⟨hj, hl'⟩, if_pos ⟨hj, hl'⟩]
    · rw [if_neg fun z => hl' z.2, if_neg fun z => hl' z.2, List.getElem?_eq_none (by omega), List.getElem?_eq_none (by omega)]
  · rw [if_neg fun z => hj z.1, if_neg fun z => hj z.1, h j hj]
theorem wipe_idem (is : List Nat) (s : St) : L2.wipe (L2.wipe s is) is = L2.wipe s is :=
  wipe_eq (wipe_length s is) fun j hj => by rw [wipe_at, if_neg fun z => hj z.1]
/-- the slots as they were -/
theorem EnvR.rest {env0 : DEnv} {s : St} {O0 : List Addr} (r0 : EnvR T Hf1 H1 env0 s O0) (sf : Same Hf1 Hf) : ∀ (is : List Nat) {e : DEnv} {O : List Addr}, is.Nodup → EnvR T Hf H e (L2.wipe s is) O → O.Nodup →
    ∃ O', EnvR T Hf H (restE env0 is e) s O' ∧ O'.Nodup ∧ ∀ a ∈ O', a ∈ O
  | [], e, O, _, r, nd => ⟨O, r, nd, fun _ h => h⟩
  | i :: is, e, O, nn, r, nd => by
    have back : ∀ {v : Option V}, (L2.wipe s is)[i]? = some v → ((L2.wipe s (i :: is)).set i v) = L2.wipe s is := fun {v} hv => by
      show ((L2.wipe s is).set i none).set i v = _
      rw [List.set_set]
      exact set_self hv
    by_cases hi : i < s.length
    · obtain ⟨v, hv⟩ : ∃ v, (L2.wipe s is)[i]? = some v := getElem?_some_lt (by rw [wipe_length]; exact hi)
      have none_ : ∃ O', EnvR T Hf H (restE env0 is (e.set i none)) s O' ∧ O'.Nodup ∧ ∀ a ∈ O', a ∈ O := by
        obtain ⟨O1, r1, n1, s1⟩ := r.clear i v nd
        rw [back hv] at r1
        obtain ⟨O2, r2, n2, s2⟩ := EnvR.rest r0 sf is (List.nodup_cons.mp nn).2 r1 n1
        exact ⟨O2, r2, n2, fun a ha => s1 a (s2 a ha)⟩
      unfold restE
      split
      · rename_i x ex
        split
        · exact none_
        · rename_i ho
          obtain ⟨w, P1, Pm, P2, f1, f2, f3, _⟩ := r0.focus ex
          have z := f3.notOwn (by simpa using ho)
          subst z
          have hv' : (L2.wipe s is)[i]? = some (some w) := by
            rw [wipe_at, if_neg fun z => (List.nodup_cons.mp nn).1 z.1]; exact f1
          obtain ⟨O1, r1, n1, s1⟩ := r.put' (k := i) (f3.still sf) (nd0 nd)
          rw [back hv'] at r1
          obtain ⟨O2, r2, n2, s2⟩ := EnvR.rest r0 sf is (List.nodup_cons.mp nn).2 r1 n1
          exact ⟨O2, r2, n2, fun a ha => (s1 a (s2 a ha)).elim id fun h => nomatch h⟩
      · exact none_
    · have e1 : L2.wipe s (i :: is) = L2.wipe s is := by
        show (L2.wipe s is).set i none = _
        rw [List.set_eq_of_length_le (by rw [wipe_length]; omega)]
      have e2 : ∀ y, e.set i y = e := fun y => List.set_eq_of_length_le (by rw [r.len, wipe_length]; omega)
      rw [e1] at r
      unfold restE
      rw [e2]
      exact EnvR.rest r0 sf is (List.nodup_cons.mp nn).2 r nd
end

/-! ### the comprehension -/
def WF : WN := fun _ _ _ => False
section
variable {T : CTab} {W : WN} {σ : St} {H : Hp} {Q : VK} {K : PySem.W.Frag}
theorem rd_lc {mi : DEnv → R (List PV)} {tg : Tg} {mt : DEnv → R Bool} {me : DEnv → R PV} {own : List Nat} (nn : own.Nodup) (hv : ∀ i ∈ tg.vars, i ∈ own)
    (h : rd T (relV T) W (fun env0 => (mi env0).bind fun xs env => (lcRun own (fun x env => tg.put x env) mt me xs [] (wipeE env own)).bind fun ys env' => .ok (.lst true ys) (restE env own env')) σ H Q) :
    tLc (rd T (relI T) W mi) (gTg K tg) (rd T relB WF mt) (rd T (relV T) WF me) own σ H Q := by
  obtain ⟨Hf, env, O, S, p⟩ := h
  refine ⟨Hf, env, O, S, Post.mono (Post.first S p) ?_⟩
  rintro J H1 ⟨xs, Hf1, env1, O1, Ox, S1, ⟨eO, ok⟩, nx, dx, N1, p1⟩
  subst eO
  intro D hD
  refine ⟨fun i m H' => m = xs.length - i ∧ ∃ Hf' e' O' acc va Oa, ST T (L2.wipe σ own) H' Hf' e' O' ∧ H' D = some (.lst va) ∧ Reps T Hf' H' acc va Oa ∧ (O' ++ (D :: Oa)).Nodup ∧ (∀ a ∈ D :: Oa, Hf' a = none) ∧ Nxt H Hf O H' Hf' (O' ++ (D :: Oa)) ∧ Same Hf1 Hf' ∧
      Post T (relV T σ) (fun c => W c σ) σ H Hf O ((lcRun own (fun x env => tg.put x env) mt me (xs.drop i) acc e').bind fun ys env' => .ok (.lst true ys) (restE env1 own env')) Q, ⟨_, rfl, ?_⟩, ?_⟩
  · obtain ⟨O2, S2, s2⟩ := S1.wipe own
    have hne : ∀ a ∈ O1, a ≠ D := fun a ha e => by
      obtain ⟨o, z⟩ := S1.rep.there a ha
      rw [e, hD] at z; cases z
    have su := same_upd (o := .lst []) hD
    refine ⟨Hf1, _, O2, [], [], [], ⟨S2.rep.move (Same.refl _) fun a ha => upd_ne (hne a (s2 a ha)), S2.nd, S1.sub.trans su, S2.dis⟩, upd_same, .nil, ?_, ?_, ?_, Same.refl _, p1⟩
    · refine ndm S2.nd (by simp) fun a ha hb => hne a (s2 a ha) (by simpa using hb)
    · intro a ha
      have e : a = D := by simpa using ha
      subst e
      exact Same.none' S1.sub hD
    · rw [List.append_nil] at N1
      refine N1.trans ⟨Same.refl _, fun b o _ e => su b o e, fun a ha => ?_, fun a h => .inl h⟩
      rcases List.mem_append.mp ha with z | z
      · exact .inl (s2 a z)
      · have e : a = D := by simpa using z
        exact .inr (e ▸ hD)
  · rintro i m H' ⟨rfl, Hf', e', O', acc, va, Oa, S', hd, ra, nd, dd, n, sf1, q⟩
    by_cases hi : i < xs.length
    · refine .inr ⟨ok.go i Hf' H' sf1 S'.sub hi, fun H'' => ∃ Hf'' e'' O'' acc va Oa, ST T (L2.wipe σ own) H'' Hf'' e'' O'' ∧ H'' D = some (.lst va) ∧ Reps T Hf'' H'' acc va Oa ∧ (O'' ++ (D :: Oa)).Nodup ∧ (∀ a ∈ D :: Oa, Hf'' a = none) ∧ Nxt H Hf O H'' Hf'' (O'' ++ (D :: Oa)) ∧ Same Hf1 Hf'' ∧
        Post T (relV T σ) (fun c => W c σ) σ H Hf O ((lcRun own (fun x env => tg.put x env) mt me (xs.drop (i + 1)) acc e'').bind fun ys env' => .ok (.lst true ys) (restE env1 own env')) Q, fun H'' hH => ⟨xs.length - (i + 1), by omega, rfl, hH⟩, fun v H2 y => ?_⟩
      obtain ⟨Hf2, g1, g2, g3, g4, rx⟩ := ok.yl i xs[i] Hf' H' v H2 sf1 S'.sub (List.getElem?_eq_getElem hi) y
      rw [List.drop_eq_getElem_cons hi] at q
      unfold lcRun at q
      cases et : tg.put xs[i] e' with
      | none => rw [et] at q; exact q.elim
      | some e1 =>
        rw [et] at q
        dsimp only at q
        have S2 := S'.grow g1 g2 g3 g4
        have tD : ∀ a ∈ D :: Oa, ∃ o, H' a = some o := fun a ha => (List.mem_cons.mp ha).elim (fun z => ⟨_, z ▸ hd⟩) (ra.there a)
        have hD2 : H2 D = some (.lst va) := g2 _ _ hd
        have ra2 : Reps T Hf2 H2 acc va Oa := ra.move g1 fun a ha => by
          obtain ⟨o, e⟩ := ra.there a ha
          rw [e]; exact g2 _ _ e
        have dd2 : ∀ a ∈ D :: Oa, Hf2 a = none := fun a ha => by
          obtain ⟨o, e⟩ := tD a ha
          exact grow_dis (dd a ha) e g4
        have n2 : Nxt H Hf O H2 Hf2 (O' ++ (D :: Oa)) := n.grow g1 g2 g4
        refine tg_put S2 rx et fun σ' O3 S3 s3 hl hs => ⟨?_, ?_⟩
        · rw [wipe_eq hl fun j hj => hs j fun z => hj (hv j z)]
          exact wipe_idem own σ
        · have ew : L2.wipe σ' own = L2.wipe σ own := by
            rw [wipe_eq hl fun j hj => hs j fun z => hj (hv j z)]
            exact wipe_idem own σ
          have tD2 : ∀ a ∈ D :: Oa, ∃ o, H2 a = some o := fun a ha => by
            obtain ⟨o, e⟩ := tD a ha
            exact ⟨o, g2 _ _ e⟩
          have nd3 : (O3 ++ (D :: Oa)).Nodup := ndm S3.nd (ndr nd) fun a ha hb => ndx nd (s3 a ha) hb
          have n3 : Nxt H Hf O H2 Hf2 (O3 ++ (D :: Oa)) := n2.weak fun a ha => (List.mem_append.mp ha).elim (fun z => List.mem_append_left _ (s3 a z)) fun z => List.mem_append_right _ z
          refine ⟨Hf2, e1, O3, S3, ?_⟩
          cases em : mt e1 with
          | exc c env2 => rw [em] at q; exact q.elim
          | bad => rw [em] at q; exact q.elim
          | ok b e2 =>
            rw [em] at q
            intro b' H3 Hf3 O4 Oy S4 ⟨eb, eO⟩ ndy dy n4
            subst eb eO
            rw [List.append_nil] at ndy n4
            obtain ⟨nd4, dd4, n5, k4⟩ := side n3 nd3 dd2 tD2 (Oy := []) (by rw [List.append_nil]; exact ndy) dy (by rw [List.append_nil]; exact n4)
            rw [List.append_nil] at nd4 dd4 n5
            have hD3 : H3 D = some (.lst va) := (k4 D List.mem_cons_self).trans hD2
            have ra3 : Reps T Hf3 H3 acc va Oa := ra2.move n4.sf fun a ha => k4 a (List.mem_cons_of_mem _ ha)
            have tD3 : ∀ a ∈ D :: Oa, ∃ o, H3 a = some o := fun a ha => by
              obtain ⟨o, e⟩ := tD2 a ha
              exact ⟨o, (k4 a ha).trans e⟩
            cases b with
            | false =>
              rw [if_neg Bool.false_ne_true]
              obtain ⟨O5, S5, s5⟩ := S4.wipe own
              rw [ew] at S5
              exact ⟨Hf3, _, O5, acc, va, Oa, S5, hD3, ra3, ndm S5.nd (ndr nd4) fun a ha hb => ndx nd4 (s5 a ha) hb, dd4, n5.weak fun a ha => (List.mem_append.mp ha).elim (fun z => List.mem_append_left _ (s5 a z)) fun z => List.mem_append_right _ z,
                sf1.trans (g1.trans n4.sf), q⟩
            | true =>
              rw [if_pos rfl]
              dsimp only at q
              refine ⟨Hf3, e2, O4, S4, ?_⟩
              cases ee : me e2 with
              | exc c env2 => rw [ee] at q; exact q.elim
              | bad => rw [ee] at q; exact q.elim
              | ok y e3 =>
                rw [ee] at q
                intro w H4 Hf4 O5 Oy S5 ry ndy5 dy5 n6
                obtain ⟨nd6, dd6, n7, k6⟩ := side n5 nd4 dd4 tD3 ndy5 dy5 n6
                have hD4 : H4 D = some (.lst va) := (k6 D List.mem_cons_self).trans hD3
                have ra4 : Reps T Hf4 H4 acc va Oa := ra3.move n6.sf fun a ha => k6 a (List.mem_cons_of_mem _ ha)
                dsimp only at q
                by_cases hz : acc.length < sizeLine
                · rw [if_pos (decide_eq_true hz)] at q
                  refine ⟨va, hD4, by rw [← ra.len]; exact hz, ?_⟩
                  obtain ⟨O6, S6, s6⟩ := S5.wipe own
                  rw [ew] at S6
                  have neD : ∀ a, a ∈ O5 ∨ a ∈ Oa ∨ a ∈ Oy → a ≠ D := fun a ha e => by
                    subst e
                    rcases ha with z | z | z
                    · exact ndx nd6 z (List.mem_append_left _ List.mem_cons_self)
                    · exact (List.nodup_cons.mp (ndl (ndr nd6))).1 z
                    · exact ndx (ndr nd6) List.mem_cons_self z
                  have nd7 : (O6 ++ (D :: (Oa ++ Oy))).Nodup := by
                    have z : (D :: Oa ++ Oy).Nodup := ndr nd6
                    exact ndm S6.nd z fun a ha hb => ndx nd6 (s6 a ha) hb
                  have fD : Hf4 D = none := dd6 D (List.mem_append_left _ List.mem_cons_self)
                  refine ⟨Hf4, _, O6, acc ++ [y], va ++ [w], Oa ++ Oy, ⟨S6.rep.move (Same.refl _) fun a ha => upd_ne (neD a (.inl (s6 a ha))), S6.nd, fun a o e => ?_, S6.dis⟩, upd_same, ?_, nd7, dd6, ?_, sf1.trans (g1.trans (n4.sf.trans n6.sf)), q⟩
                  · rw [upd_ne fun z => by rw [z, fD] at e; cases e]
                    exact S6.sub _ _ e
                  · have z := (ra4.app (.cons ry .nil)).move (Hf' := Hf4) (H' := upd H4 D (.lst (va ++ [w]))) (Same.refl _) fun a ha => upd_ne (neD a (by
                      rw [List.append_nil] at ha
                      exact .inr (List.mem_append.mp ha)))
                    rw [List.append_nil] at z
                    exact z
                  · refine n7.trans ⟨Same.refl _, fun b o hb e => ?_, fun a ha => .inl ?_, fun a h => .inl h⟩
                    · rw [upd_ne fun z => hb (by rw [z]; exact List.mem_append_right _ (List.mem_append_left _ List.mem_cons_self))]
                      exact e
                    · exact (List.mem_append.mp ha).elim (fun z => List.mem_append_left _ (s6 a z)) fun z => List.mem_append_right _ z
                · rw [if_neg (by simpa using hz)] at q; exact q.elim
    · refine .inl ⟨ok.st i Hf' H' sf1 S'.sub (by omega), ?_⟩
      rw [List.drop_eq_nil_of_le (by omega)] at q
      obtain ⟨O2, r2, n2, s2⟩ := EnvR.rest S1.rep sf1 own nn S'.rep S'.nd
      exact q (.ref D) H' Hf' O2 (D :: Oa) ⟨r2, n2, S'.sub, fun a ha => S'.dis a (s2 a ha)⟩ (.lstO hd ra) (ndm n2 (ndr nd) fun a ha hb => ndx nd (s2 a ha) hb) dd (n.weak fun a ha => (List.mem_append.mp ha).elim (fun z => List.mem_append_left _ (s2 a z)) fun z => List.mem_append_right _ z)
end
end DN

set_option Elab.async false
set_option linter.all false
set_option maxRecDepth 100000
set_option maxHeartbeats 4000000
/-! DEN, part 13: heads; calls. -/
namespace DN
open PySem PySem.Spec PyProof.Rows L2

/-! ### heads -/
def hdA : Expr → Bool
  | .Starred .. => false
  | .Slice .. => false
  | .Set .. => false
  | _ => true
theorem hdA_ix {b : Expr} (h : hdA b = true) : PlainIx b := by
  intro o i
  cases b <;> first | rfl | cases h
theorem hdA_star {e : Expr} {es : List Expr} {env : Env} (h : hdA e = true) : starEach (e :: es) env = (false, eval e env) :: starEach es env := by
  cases e <;> first | rfl | cases h
theorem hdA_fold {e : Expr} {env : Env} (h : hdA e = true) : ∀ x, foldedSetIterable e env x = pure x := by
  intro x
  cases e <;> first | rfl | cases h
theorem hdA_mark {e : Expr} {op : CmpOp} (h : hdA e = true) : behindInMarks op e = false := by
  cases e <;> first | rfl | cases h
theorem hdA_any {pos : Pos} {env : Env} : ∀ {es : List Expr}, (∀ e ∈ es, hdA e = true) → (backTo pos (starEach es env)).any (·.1) = false
  | [], _ => rfl
  | e :: es, h => by
    rw [hdA_star (h e List.mem_cons_self)]
    have z := hdA_any (pos := pos) (env := env) (es := es) fun e he => h e (List.mem_cons_of_mem _ he)
    unfold backTo at z ⊢
    simpa using z
/-- heads whose test is their value's truth -/
def truHd : Expr → Bool
  | .UnaryOp .Not _ _ => false
  | .BoolOp .. => false
  | .IfExp .. => false
  | .Compare .. => false
  | _ => true
theorem truHd_is {e : Expr} {env : Env} (h : truHd e = true) : ∀ whole, isTrue e env whole = (do let v ← whole; standAt e.pos; holding [v] (truthy v)) := by
  intro whole
  cases e with
  | UnaryOp op x p => cases op <;> first | rfl | cases h
  | _ => first | rfl | cases h
section
variable (G : Prg) (N : List Str)
theorem P.hd (b : P) : hdA (b.emb G N) = true := by
  rcases b.head G N with ⟨_, _, e⟩ | ⟨_, _, _, e⟩ | ⟨_, _, _, e⟩ <;> rw [e] <;> rfl
theorem P.tru (b : P) : truHd (b.emb G N) = true := by
  rcases b.head G N with ⟨_, _, e⟩ | ⟨_, _, _, e⟩ | ⟨_, _, _, e⟩ <;> rw [e] <;> rfl
theorem Qe.hd (k : Qe) : hdA (k.emb G N) = true := by
  cases k with
  | rd b => exact b.hd G N
  | _ => rfl
theorem Qe.tru (k : Qe) : truHd (k.emb G N) = true := by
  cases k with
  | rd b => exact b.tru G N
  | _ => rfl
theorem E.hd (e : E) : hdA (e.emb G N) = true := by
  cases e with
  | q a => unfold E.emb; exact a.hd G N
  | _ => unfold E.emb; rfl
theorem B.hd (e : B) : hdA (e.emb G N) = true := by
  cases e with
  | e e => unfold B.emb; exact e.hd G N
  | p b => unfold B.emb; exact b.hd G N
/-- an expression that may stand as a test -/
def E.truB : E → Bool
  | .and .. => false
  | .or .. => false
  | .not .. => false
  | .ife .. => false
  | .cmp .. => false
  | _ => true
def B.truB : B → Bool
  | .e x => x.truB
  | .p _ => true
theorem B.tru (e : B) (h : e.truB = true) : truHd (e.emb G N) = true := by
  cases e with
  | e e =>
    unfold B.emb
    cases e with
    | q a => unfold E.emb; exact a.tru G N
    | _ => first | (unfold E.emb; rfl) | cases h
  | p b => unfold B.emb; exact b.tru G N
theorem As.hds : ∀ (as : As), ∀ y ∈ as.emb G N, hdA y = true
  | .nil, y, h => by unfold As.emb at h; cases h
  | .mv i p as, y, h => by
    unfold As.emb at h
    rcases List.mem_cons.mp h with z | z
    · rw [z]; rfl
    · exact As.hds as y z
  | .e f x as, y, h => by
    unfold As.emb at h
    rcases List.mem_cons.mp h with z | z
    · rw [z]; exact x.hd G N
    · exact As.hds as y z
theorem Es.hds : ∀ (as : Es), ∀ e ∈ as.emb G N, hdA e = true
  | .nil, e, h => by unfold Es.emb at h; cases h
  | .cons x as, e, h => by
    unfold Es.emb at h
    rcases List.mem_cons.mp h with z | z
    · rw [z]; exact x.hd G N
    · exact Es.hds as e z
/-- heads that attributeBase looks through -/
theorem E.nocall (e : E) (h : (match e with | .call _ .nil _ _ => false | .make _ .nil _ _ _ _ => false | _ => true) = true) : ∀ id pos p, e.emb G N ≠ .Call (.Name id p) [] [] pos := by
  intro id pos p z
  cases e with
  | q a =>
    unfold E.emb at z
    cases a with
    | rd b => exact b.nocall G N id pos p z
    | _ => cases z
  | call f as pn p' =>
    cases as with
    | nil => cases h
    | _ => unfold E.emb As.emb at z; cases z
  | make m as kas kn pn p' =>
    cases as with
    | nil => cases h
    | _ => unfold E.emb As.emb at z; cases z
  | _ => unfold E.emb at z; cases z
end

/-! ### keywords -/
section
variable {G : Prg}
def kwNames (G : Prg) (kn : List (Nat × Pos)) : List Str := kn.map fun k => G.an.getD k.1 ""
theorem kw_all {pos : Pos} {env : Env} : ∀ (kn : List (Nat × Pos)) (es : List Expr), (backToKw pos (keywordEach (zipKw G kn es) env)).all (·.1.isSome) = true
  | [], _ => rfl
  | _ :: _, [] => rfl
  | k :: kn, e :: es => by
    have z := kw_all (pos := pos) (env := env) kn es
    unfold backToKw at z ⊢
    show ((_ :: List.map _ (keywordEach (zipKw G kn es) env)).all _) = true
    rw [List.all_cons, z]
    rfl
theorem kw_any {pos : Pos} {env : Env} : ∀ (kn : List (Nat × Pos)) (es : List Expr), (backToKw pos (keywordEach (zipKw G kn es) env)).any (·.1.isNone) = false
  | [], _ => rfl
  | _ :: _, [] => rfl
  | k :: kn, e :: es => by
    have z := kw_any (pos := pos) (env := env) kn es
    unfold backToKw at z ⊢
    show ((_ :: List.map _ (keywordEach (zipKw G kn es) env)).any _) = false
    rw [List.any_cons, z]
    rfl
theorem kw_ks {pos : Pos} {env : Env} : ∀ (kn : List (Nat × Pos)) (es : List Expr), es.length = kn.length → (backToKw pos (keywordEach (zipKw G kn es) env)).filterMap (·.1) = kwNames G kn
  | [], _, _ => rfl
  | _ :: _, [], h => nomatch h
  | k :: kn, e :: es, h => by
    have z := kw_ks (pos := pos) (env := env) kn es (by simpa using h)
    unfold backToKw at z ⊢
    show (List.filterMap _ (_ :: List.map _ (keywordEach (zipKw G kn es) env))) = _ :: kwNames G kn
    rw [← z]
    rfl
theorem As.emb_len (N : List Str) : ∀ (as : As), (as.emb G N).length = as.len
  | .nil => rfl
  | .mv i p as => by unfold As.emb; exact congrArg (· + 1) (As.emb_len N as)
  | .e f x as => by unfold As.emb; exact congrArg (· + 1) (As.emb_len N as)
end

/-! ### the facts of a program -/
def callB (G : Prg) (f : Nat) : Bool := match G.dn[f]? with
  | some x => !(x == ("" : Str))
  | none => false
structure TopC (T : CTab) (G : Prg) (mg : Str → Option Value) : Prop where
  call : ∀ f x, G.dn[f]? = some x → (x == ("" : Str)) = false → mg x = some (.ref (T.fa f)) ∧ PySem.W.keepIn T.K (.ref (T.fa f)) = true ∧ Binds T.K (T.fd f) (T.fp f) [] ∧ (x == ("__debug__" : Str)) = false
  meth : ∀ c m f, (c, m, f) ∈ G.mt → Cls T.K (T.adr c) ∧ Meth T.K (T.adr c) (G.an.getD m "") (T.fa f) ∧ Binds T.K (T.fd f) (T.fp f) [] ∧ G.an.getD m "" ∉ T.fld c
  prop : ∀ c m f, (c, m, f) ∈ G.pt → Cls T.K (T.adr c) ∧ (∃ p, PropOf T.K (T.adr c) (G.an.getD m "") p (T.fa f)) ∧ Binds T.K (T.fd f) (T.fp f) []
  make : ∀ c f n (ks : List Nat) ds, (c, f, n, ks, ds) ∈ G.mks → ∃ g gV dvs, Mk T.K (T.adr c) (T.fa f) ∧ KBn T.K (T.fd f) (T.fp f) (n + 1) (ks.map fun k => G.an.getD k "") g gV ∧ (∀ vs zs : List V, vs.length = n + 1 → zs.length = ks.length → gV vs zs = vs ++ (zs ++ dvs)) ∧
    (∀ Hf H, Reps T Hf H ds dvs []) ∧ mg (G.cn.getD c "") = some (.ref (T.adr c)) ∧ (G.cn.getD c "" == ("__debug__" : Str)) = false
/-- def f does what F says -/
def DefOk (P : Program) (w : World) (mg : Str → Option Value) (base : Heap) (T : CTab) (G : Prg) (F : Fns) (f : Nat) : Prop :=
  FnOk P w T.K mg base (L2.CX P w) (G.lv.getD f 0) (T.fa f) (T.fd f) (T.fp f) (spDen T F (G.np.getD f 0) f)
/-- exceptions that go out -/
def ExD (T : CTab) (W : WN) : St → XK := fun σ cls d H' => ∃ c, cls = .ref (T.adr c) ∧ d = none ∧ W c σ H'
def PassD (T : CTab) (X : Cx) (W : WN) : Prop := ∀ σ, PassesAt (L2.CX X.prog X.w) X σ (ExD T W σ)
theorem passWF {T : CTab} {X : Cx} : PassD T X WF := fun σ pins H s e s' I c => by
  obtain ⟨_, _, _, _, _, _, _, _, _, _, _, _, _, _, _, z⟩ := c
  exact z.elim

/-! ### calls -/
section
variable {T : CTab} {G : Prg} {N : List Str} {sc : Scope} {X : Cx} {W : WN} {F : Fns} {σ : St} {H : Hp} {Q : VK}
theorem rd_call {as : As} {f n : Nat} {ma : DEnv → R (List (Option PV))} (hn : as.len = n) (h : rd T (relV T) W (fun env => (ma env).bind fun xs env => match takeOut as xs env with
    | some (ys, env) => callR as env (F f ys)
    | none => .bad) σ H Q) : tCallS (spDen T F n f) (ExD T W) (rd T (relA T as) W ma) σ H Q := by
  obtain ⟨Hf, env, O, S, p⟩ := h
  refine ⟨Hf, env, O, S, Post.mono (Post.first S p) ?_⟩
  rintro vs H1 ⟨xs, Hf1, env1, O1, Oa, S1, ra, nx, dx, N1, p1⟩
  split at p1
  · rename_i ys env3 et
    exact call_den S1 ra nx dx N1 et hn p1
  · exact p1.elim
theorem zip_none {l : List Str} {vs : List V} {x : Str} (h : x ∉ l) : (l.zip vs).lookup x = none := by
  induction l generalizing vs with
  | nil => rfl
  | cons y l ih =>
    cases vs with
    | nil => rfl
    | cons v vs =>
      rw [List.zip_cons_cons, List.lookup_cons]
      have hne : (x == y) = false := by
        cases q : x == y with
        | false => rfl
        | true =>
          have : x = y := by simpa using q
          exact absurd (this ▸ List.mem_cons_self) h
      rw [hne]
      exact ih fun z => h (List.mem_cons_of_mem _ z)
def tMethS (C : Addr) (m : Str) (sp : Sp) (E : St → XK) (ta : TE) (t : TA) : TE := fun σ H Q => ta σ H fun x H1 => ∃ a dx fs, x = .ref a ∧ H1 a = some (.ins C dx fs) ∧ fs.lookup m = none ∧ t σ H1 fun vs H2 => sp (.ref a :: vs) H2 Q (E σ)
theorem pe_methD {pl : Sem Bool} {k : Nat} {f C : Addr} {fd : FuncData} {ps : List Str} {sp : Sp} {m : Str} {pos apos : Pos} {o e : Expr} {es : List Expr} {ta : TE} {t : TA} {CX : CXT} {E : St → XK} (he : PE X o ta) (c : Cls X.K C) (hm : Meth X.K C m f) (F : FnOk X.prog X.w X.K X.mg X.base CX k f fd ps sp) (hr : Room k X.A) (hb : Binds X.K fd ps []) (hx : ∀ σ, PassesAt CX X σ (E σ)) (ha : PA X (e :: es) t)
    (hst : starEach (e :: es) X.env = (false, eval e X.env) :: starEach es X.env) (hpl : (backTo pos (starEach es X.env)).any (·.1) = false)
    (ht : eval (.Call (.Attribute o m apos) (e :: es) [] pos) X.env = (do
      let ov ← eval o X.env
      standAt apos.atName
      let (f, first) ← holding [ov] (getMethod ov m pl)
      callWith pos f first (backTo pos (starEach (e :: es) X.env)) (backToKw pos (keywordEach [] X.env)))) :
    PE X (.Call (.Attribute o m apos) (e :: es) [] pos) (tMethS C m sp E ta t) := by
  refine ⟨fun pins s σ H Q I h => ?_⟩
  refine PySem.W.methodCall_KW (pl := pl) (thn (he.run pins s σ H _ I h) fun u s1 ⟨x, H1, I1, rx, a, dx, fs, ex, ea, l, q⟩ => ?_) ht
  subst ex
  obtain rfl : u = Value.ref a := rx
  refine getmeth_ok I1 ea c hm l ?_
  refine PySem.W.callWith_K (first := [.ref a]) (h₀ := X.base) I.ok.mod.kin hm.kp (thn (ha.run pos pins s1 σ H1 _ I1 q) fun us s2 ⟨vs, H2, I2, r, q2⟩ => ⟨I2.kIn, ?_⟩) hst hpl
  exact run_fnS (us := .ref a :: us) (vs := .ref a :: vs) F hr hb (hx σ) I2 (.cons rfl r) q2
theorem pe_methD0 {pl : Sem Bool} {k : Nat} {f C : Addr} {fd : FuncData} {ps : List Str} {sp : Sp} {m : Str} {pos apos : Pos} {o : Expr} {ta : TE} {CX : CXT} {E : St → XK} (he : PE X o ta) (c : Cls X.K C) (hm : Meth X.K C m f) (F : FnOk X.prog X.w X.K X.mg X.base CX k f fd ps sp) (hr : Room k X.A) (hb : Binds X.K fd ps []) (hx : ∀ σ, PassesAt CX X σ (E σ))
    (ht : eval (.Call (.Attribute o m apos) [] [] pos) X.env = (do
      let ov ← eval o X.env
      standAt apos.atName
      let (f, first) ← holding [ov] (getMethod ov m pl)
      callWith pos f first (backTo pos (starEach [] X.env)) (backToKw pos (keywordEach [] X.env)))) :
    PE X (.Call (.Attribute o m apos) [] [] pos) (tMethS C m sp E ta tNil) := by
  refine ⟨fun pins s σ H Q I h => ?_⟩
  refine PySem.W.methodCall_KW (pl := pl) (thn (he.run pins s σ H _ I h) fun u s1 ⟨x, H1, I1, rx, a, dx, fs, ex, ea, l, q⟩ => ?_) ht
  subst ex
  obtain rfl : u = Value.ref a := rx
  refine getmeth_ok I1 ea c hm l ?_
  exact PySem.W.callWith_K0 (first := [.ref a]) I1.kIn hm.kp (run_fnS (us := [.ref a]) (vs := [.ref a]) F hr hb (hx σ) I1 (.cons rfl .nil) q)
theorem rd_methE {e : E} {as : As} {c m f n : Nat} {me : DEnv → R PV} {ma : DEnv → R (List (Option PV))} (hn : as.len + 1 = n) (hno : G.an.getD m "" ∉ T.fld c)
    (h : rd T (relV T) W (fun env => (me env).bind fun x env => if x.isOf c then (ma env).bind fun xs env => match takeOut as xs env with
      | some (ys, env) => match F f (x :: ys) with
        | .ok v (_ :: ps) => .ok v (putBack as ps env)
        | .exc d (_ :: ps) => .exc d (putBack as ps env)
        | _ => .bad
      | none => .bad
    else .bad) σ H Q) : tMethS (T.adr c) (G.an.getD m "") (spDen T F n f) (ExD T W) (rd T (relV T) W me) (rd T (relA T as) W ma) σ H Q := by
  obtain ⟨Hf, env, O, S, p⟩ := h
  refine ⟨Hf, env, O, S, Post.mono (Post.first S p) ?_⟩
  rintro v H1 ⟨x, Hf1, env1, O1, Ox, S1, rx, nx, dx, N1, p1⟩
  split at p1
  · rename_i hc
    have ins : ∃ a dx fs, v = .ref a ∧ H1 a = some (.ins (T.adr c) dx fs) ∧ fs.lookup (G.an.getD m "") = none := by
      cases x with
      | ins o d xs =>
        have hd : d = c := by
          have z : (d == c) = true := hc
          simpa using z
        subst hd
        cases rx with
        | insF h l r => exact ⟨_, _, _, rfl, S1.sub _ _ h, zip_none hno⟩
        | insO h l r => exact ⟨_, _, _, rfl, h, zip_none hno⟩
      | _ => cases hc
    obtain ⟨a, dd, fs, rfl, e1, e2⟩ := ins
    refine ⟨a, dd, fs, rfl, e1, e2, Hf1, env1, O1, S1, Post.mono (Post.step (rel := relA T as σ) N1 nx dx rx.there p1) ?_⟩
    rintro vs H2 ⟨xs, Hf2, env2, O2, Oa, S2, ra, ny, dy, N2, kx, sf, p2⟩
    split at p2
    · rename_i ys env3 et
      have et' : takeOut (.e false e as) (some x :: xs) env2 = some (x :: ys, env3) := by
        show (takeOut as xs env2).map _ = _
        rw [et]
        rfl
      refine call_den (as := .e false e as) (W := fun c => W c σ) S2 (.val (rx.move sf kx) ra) ny dy N2 et' hn ?_
      cases q : F f (x :: ys) with
      | ok v ps =>
        rw [q] at p2
        cases ps with
        | nil => exact p2.elim
        | cons p0 ps => exact p2
      | exc d ps =>
        rw [q] at p2
        cases ps with
        | nil => exact p2.elim
        | cons p0 ps => exact p2
      | bad => rw [q] at p2; exact p2.elim
    · exact p2.elim
  · exact p1.elim
theorem rd_prop {e : E} {c f : Nat} {me : DEnv → R PV}
    (h : rd T (relV T) W (fun env => (me env).bind fun x env => if x.isOf c then match F f [x] with
      | .ok v _ => .ok v env
      | _ => .bad
    else .bad) σ H Q) : tProp (T.adr c) (spDen T F 1 f) [] (fun _ _ _ => False) (rd T (relV T) W me) σ H Q := by
  obtain ⟨Hf, env, O, S, p⟩ := h
  refine ⟨Hf, env, O, S, Post.mono (Post.first S p) ?_⟩
  rintro v H1 ⟨x, Hf1, env1, O1, Ox, S1, rx, nx, dx, N1, p1⟩
  split at p1
  · rename_i hc
    have ins : ∃ a dx fs, v = .ref a ∧ H1 a = some (.ins (T.adr c) dx fs) := by
      cases x with
      | ins o d xs =>
        have hd : d = c := by
          have z : (d == c) = true := hc
          simpa using z
        subst hd
        cases rx with
        | insF h l r => exact ⟨_, _, _, rfl, S1.sub _ _ h⟩
        | insO h l r => exact ⟨_, _, _, rfl, h⟩
      | _ => cases hc
    obtain ⟨a, dd, fs, rfl, e1⟩ := ins
    refine ⟨a, dd, fs, rfl, e1, ?_⟩
    have ra : ArgR T Hf1 H1 σ (.e false e .nil) [some x] [.ref a] (Ox ++ []) := .val rx .nil
    rw [List.append_nil] at ra
    have z := call_den (F := F) (n := 1) (f := f) (as := .e false e .nil) (W := fun _ _ => False) (Q := Q) (ys := [x]) (env3 := env1) (H := H) (Hf := Hf) (O := O) S1 ra nx dx N1 rfl rfl ?_
    · obtain ⟨Hf', xs, O', z1, z2, z3, z4, z5, z6⟩ := z
      refine ⟨Hf', xs, O', z1, z2, z3, z4, z5, ?_⟩
      cases q : F f xs with
      | ok r ps => rw [q] at z6; exact z6
      | exc c' ps =>
        rw [q] at z6
        intro H' Hf'' O'' a1 a2 a3 a4 a5
        obtain ⟨_, _, _, z⟩ := z6 H' Hf'' O'' a1 a2 a3 a4 a5
        exact z
      | bad => rw [q] at z6; exact z6
    · cases q : F f [x] with
      | ok r ps =>
        rw [q] at p1
        cases ps with
        | nil => exact p1
        | cons p0 ps => exact p1
      | exc c' ps => rw [q] at p1; exact p1.elim
      | bad => rw [q] at p1; exact p1.elim
  · exact p1.elim
end
end DN

set_option Elab.async false
set_option linter.all false
set_option maxRecDepth 100000
set_option maxHeartbeats 4000000
/-! DEN, part 14: new instances. -/
namespace DN
open PySem PySem.Spec PyProof.Rows L2

section
variable {T : CTab} {σ : St} {H Hf H2 Hf2 : Hp} {O O2 Oa : List Addr} {W : Nat → Hp → Prop}
theorem make_den {F : Fns} {n f c : Nat} {as : As} {xs : List (Option PV)} {vs dvs : List V} {ds : List PV} {env2 env3 : DEnv} {ys : List PV} {Q : VK} {x dx : Addr}
    (S : ST T σ H2 Hf2 env2 O2) (ra : ArgR T Hf2 H2 σ as xs vs Oa) (nd : (O2 ++ Oa).Nodup) (da : ∀ a ∈ Oa, Hf2 a = none) (N : Nxt H Hf O H2 Hf2 (O2 ++ Oa)) (et : takeOut as xs env2 = some (ys, env3)) (hds : ∀ Hf H, Reps T Hf H ds dvs []) (hn : as.len + ds.length + 1 = n)
    (hx : H2 x = none) (hdx : H2 dx = none) (hne : dx ≠ x)
    (h : Post T (Rep T) W σ H Hf O (match F f (.ins true c [] :: (ys ++ ds)) with
      | .ok .non (some x :: ps) => .ok x (putBack as ps env3)
      | .exc d (_ :: ps) => .exc d (putBack as ps env3)
      | _ => .bad) Q) :
    spDen T F n f (.ref x :: (vs ++ dvs)) (upd (upd H2 dx (.own x)) x (.ins (T.adr c) dx [])) (fun v H3 => v = .non ∧ Q (.ref x) H3) (fun cls d H' => ∃ c, cls = .ref (T.adr c) ∧ d = none ∧ W c H') := by
  generalize hH : upd (upd H2 dx (.own x)) x (.ins (T.adr c) dx []) = Hm
  have hx1 : (upd H2 dx (.own x)) x = none := by rw [upd_ne hne.symm]; exact hx
  have sh : Same H2 Hm := by rw [← hH]; exact (same_upd hdx).trans (same_upd hx1)
  have fx : Hf2 x = none := Same.none' S.sub hx
  have S' : ST T σ Hm Hf2 env2 O2 := S.grow (Same.refl _) sh (S.sub.trans sh) fun _ h => .inl h
  have ra' : ArgR T Hf2 Hm σ as xs vs Oa := ra.move (Same.refl _) fun a ha => by
    obtain ⟨o, e⟩ := ra.there a ha
    rw [e]; exact sh _ _ e
  obtain ⟨O3, Oy, g1, g2, g3, g4, g5, _⟩ := args_out ra' S'.rep nd et
  have g5' : ∀ a ∈ Oy, a ∈ O2 ++ Oa := fun a ha => List.mem_append.mpr (g5 a ha)
  have old : ∀ a ∈ O2 ++ Oa, ∃ o, H2 a = some o := fun a ha => (List.mem_append.mp ha).elim (S.rep.there a) (ra.there a)
  have nex : ∀ a ∈ O2 ++ Oa, a ≠ x := fun a ha e => by
    obtain ⟨o, z⟩ := old a ha
    rw [e, hx] at z; cases z
  have xy : x ∉ Oy := fun z => nex x (g5' x z) rfl
  have x3 : x ∉ O3 := fun z => nex x (List.mem_append_left _ (g4 x z)) rfl
  have gx : (O3 ++ (x :: Oy)).Nodup := ndm (ndl g3) (List.nodup_cons.mpr ⟨xy, ndr g3⟩) fun a ha hb => (List.mem_cons.mp hb).elim (fun z => x3 (z ▸ ha)) fun z => ndx g3 ha z
  have dy : ∀ a ∈ x :: Oy, Hf2 a = none := fun a ha => (List.mem_cons.mp ha).elim (fun z => z ▸ fx) fun z => (g5 a z).elim (S.dis a) (da a)
  have hself : Rep T Hf2 Hm (.ins true c []) (.ref x) [x] := by
    have e : Hm x = some (.ins (T.adr c) dx (zipF T c [])) := by
      rw [← hH, upd_same]
      unfold zipF
      rw [List.zip_nil_right]
    exact .insO e (Nat.zero_le _) .nil
  have rr : Reps T Hf2 Hm (.ins true c [] :: (ys ++ ds)) (.ref x :: (vs ++ dvs)) (x :: Oy) := by
    have z := Reps.cons hself (g2.app (hds Hf2 Hm))
    rw [List.append_nil] at z
    exact z
  have N' : Nxt H Hf O Hm Hf2 ((O2 ++ Oa) ++ [x]) := by
    refine N.trans ⟨Same.refl _, fun b o _ e => sh b o e, fun a ha => ?_, fun a h => .inl h⟩
    rcases List.mem_append.mp ha with z | z
    · exact .inl z
    · have e : a = x := by simpa using z
      exact .inr (e ▸ hx)
  have upx : ∀ a ∈ x :: Oy, a ∈ (O2 ++ Oa) ++ [x] := fun a ha => (List.mem_cons.mp ha).elim (fun z => List.mem_append_right _ (by simp [z])) fun z => List.mem_append_left _ (g5' a z)
  refine ⟨Hf2, .ins true c [] :: (ys ++ ds), x :: Oy, rr, List.nodup_cons.mpr ⟨xy, ndr g3⟩, S'.sub, dy, ?_, ?_⟩
  · rw [List.length_cons, List.length_append, g2.len, ra.vlen]; exact hn
  have back : ∀ {ps : DEnv} {H' Hf' : Hp} {O' P : List Addr}, EnvR T Hf' H' ps ((vs ++ dvs).map some) O' → (∀ a ∈ O', a ∈ P) → P.Nodup → O'.Nodup → (∀ a ∈ P, Hf' a = none) → Same Hf' H' → Nxt Hm Hf2 (x :: Oy) H' Hf' P → ∃ O4, ST T σ H' Hf' (putBack as ps env3) O4 ∧ (∀ a ∈ O4, a ∈ O3 ∨ a ∈ O') := fun {ps H' Hf' O' P} rp hs hP hO dP sub n => by
    have r3 := g1.past gx n
    have nd3 : (O3 ++ O').Nodup := by
      have z := fresh_nd g1.there gx hP n
      exact ndm (ndl z) hO fun a ha hb => ndx z ha (hs a hb)
    obtain ⟨O4, r4, n4, s4⟩ := args_backM (more := dvs.map some) ra' r3 (by rw [← List.map_append]; exact rp) nd3
    refine ⟨O4, ⟨r4, n4, sub, fun a ha => ?_⟩, s4⟩
    rcases s4 a ha with z | z
    · exact dis_past (fun a ha => S'.dis a (g4 a ha)) g1.there gx n a z
    · exact dP a (hs a z)
  cases er : F f (.ins true c [] :: (ys ++ ds)) with
  | ok r ps =>
    rw [er] at h
    intro v H' Hf' O' Or rp rv nd' d' sub n
    cases r with
    | non =>
      cases rv
      cases ps with
      | nil => exact h.elim
      | cons p0 ps =>
        cases p0 with
        | none => exact h.elim
        | some y =>
          rw [List.append_nil] at nd' d' n
          cases rp with
          | @som _ _ _ _ Ox Od hy rq =>
            obtain ⟨O4, S4, s4⟩ := back rq (fun a ha => List.mem_append_right _ ha) nd' (ndr nd') d' sub n
            have z := fresh_nd g1.there gx nd' n
            refine ⟨rfl, h (.ref x) H' Hf' O4 Ox S4 hy (ndm S4.nd (ndl nd') fun a ha hb => ?_) (fun a ha => d' a (List.mem_append_left _ ha)) (N'.trans (n.up upx fun a ha => ?_))⟩
            · rcases s4 a ha with q | q
              · exact ndx z q (List.mem_append_left _ hb)
              · exact ndx nd' hb q
            · rcases List.mem_append.mp ha with q | q
              · rcases s4 a q with q | q
                · exact .inl (List.mem_append_left _ (List.mem_append_left _ (g4 a q)))
                · exact .inr (List.mem_append_right _ q)
              · exact .inr (List.mem_append_left _ q)
    | _ => exact h.elim
  | exc d ps =>
    rw [er] at h
    intro H' Hf' O' rp nd' d' sub n
    have go : ∀ {ps' : DEnv} {Od : List Addr}, EnvR T Hf' H' ps' ((vs ++ dvs).map some) Od → (∀ a ∈ Od, a ∈ O') → Od.Nodup → Post T (Rep T) W σ H Hf O (.exc d (putBack as ps' env3)) Q → ∃ c, V.ref (T.adr d) = V.ref (T.adr c) ∧ W c H' := fun {ps' Od} rq hs hO h => by
      obtain ⟨O4, S4, s4⟩ := back rq hs nd' hO d' sub n
      refine ⟨d, rfl, h H' Hf' O4 S4 (N'.trans (n.up upx fun a ha => ?_))⟩
      rcases s4 a ha with q | q
      · exact .inl (List.mem_append_left _ (List.mem_append_left _ (g4 a q)))
      · exact .inr (hs a q)
    cases ps with
    | nil => exact h.elim
    | cons p0 ps =>
      have fin : ∀ {c'}, W c' H' → V.ref (T.adr d) = V.ref (T.adr c') → True := fun _ _ => trivial
      cases rp with
      | non _ rq =>
        obtain ⟨O4, S4, s4⟩ := back rq (fun a ha => ha) nd' nd' d' sub n
        refine ⟨d, rfl, rfl, h H' Hf' O4 S4 (N'.trans (n.up upx fun a ha => ?_))⟩
        rcases s4 a ha with q | q
        · exact .inl (List.mem_append_left _ (List.mem_append_left _ (g4 a q)))
        · exact .inr q
      | @som _ _ _ _ Ox Od hy rq =>
        obtain ⟨O4, S4, s4⟩ := back rq (fun a ha => List.mem_append_right _ ha) nd' (ndr nd') d' sub n
        refine ⟨d, rfl, rfl, h H' Hf' O4 S4 (N'.trans (n.up upx fun a ha => ?_))⟩
        rcases s4 a ha with q | q
        · exact .inl (List.mem_append_left _ (List.mem_append_left _ (g4 a q)))
        · exact .inr (List.mem_append_right _ q)
  | bad =>
    rw [er] at h
    exact h
end

def tMakeS (C : Addr) (n m : Nat) (sp : Sp) (gV : List V → List V → List V) (E : St → XK) (t tk : TA) : TE := fun σ H Q => t σ H fun vs H1 => tk σ H1 fun zs H2 => vs.length = n ∧ zs.length = m ∧
  ∀ x dx, H2 x = none → H2 dx = none → dx ≠ x → sp (gV (.ref x :: vs) zs) (upd (upd H2 dx (.own x)) x (.ins C dx [])) (fun v H3 => v = .non ∧ Q (.ref x) H3) (E σ)
section
variable {X : Cx} {CX : CXT} {k n : Nat} {f C : Addr} {fd : FuncData} {ps ks : List Str} {sp : Sp} {E : St → XK} {x : Str} {p pos : Pos} {e : Expr} {es : List Expr} {kws : List Keyword} {t tk : TA} {g : List Value → List Value → List Value} {gV : List V → List V → List V}
theorem run_makeS {pins : List (Addr × Obj)} {σ : St} {H : Hp} {s : Shared} {Q : VK} {us ws : List Value} {vs zs : List V} (M : Mk X.K C f) (F : FnOk X.prog X.w X.K X.mg X.base CX k f fd ps sp) (hr : Room (k + 1) X.A) (hb : KBn X.K fd ps (n + 1) ks g gV)
    (hx : PassesAt CX X σ (E σ)) (I : Inv X pins σ H s) (r : Vals vs us) (rz : Vals zs ws) (l1 : vs.length = n) (l2 : zs.length = ks.length)
    (h : ∀ x dx, H x = none → H dx = none → dx ≠ x → sp (gV (.ref x :: vs) zs) (upd (upd H dx (.own x)) x (.ins C dx [])) (fun v H2 => v = .non ∧ Q (.ref x) H2) (E σ)) :
    wpAny (model X.prog X.w) X.A (call (.ref C) us (ks.zip ws)) (EP X pins σ Q) X.xe s := by
  have hq := h (s.heap.objs.size + 1) s.heap.objs.size (I.hok.fresh (Nat.le_succ _)) (I.hok.fresh (Nat.le_refl _)) (Nat.ne_of_lt (Nat.lt_succ_self _))
  have I2 := Inv.made (C := C) I
  have r1 : Vals (V.ref (s.heap.objs.size + 1) :: vs) (Value.ref (s.heap.objs.size + 1) :: us) := .cons rfl r
  have r2 := hb.rel r1 rz
  have e1 : (Value.ref (s.heap.objs.size + 1) :: us).length = n + 1 := r1.length.symm.trans (congrArg Nat.succ l1)
  have e2 : ws.length = ks.length := rz.length.symm.trans l2
  refine wpAny_call (make_map (f := f) I.kIn M.makes M.init (beq_iff_eq.mp M.fn) (codeAny_mono (F.run _ X.stack _ _ ⟨Value.ref (s.heap.objs.size + 1) :: us, ks.zip ws⟩ (g (Value.ref (s.heap.objs.size + 1) :: us) ws) _ _ (E σ) (hr.make C us (ks.zip ws))
    (I2.env0.make C us (ks.zip ws)) (hb.to _ (Value.ref (s.heap.objs.size + 1) :: us) ws I2.kIn e1 e2) r2 hq) fun r s' hq' => ?_))
  cases r with
  | error e => exact hx pins _ _ e s' I2 hq'
  | ok fl =>
    cases fl with
    | ret u =>
      obtain ⟨v, H', I3, rv, ev, q3⟩ := I2.after hq'
      subst ev
      exact ⟨rv, ⟨V.ref (s.heap.objs.size + 1), H', I3, rfl, q3⟩⟩
    | next => exact False.elim hq'
    | brk => exact False.elim hq'
    | cont => exact False.elim hq'
theorem pe_makeS (M : Mk X.K C f) (F : FnOk X.prog X.w X.K X.mg X.base CX k f fd ps sp) (hr : Room (k + 1) X.A) (hg : Gl X x) (hm : X.mg x = some (.ref C)) (hb : KBn X.K fd ps (n + 1) ks g gV) (hx : ∀ σ, PassesAt CX X σ (E σ))
    (ha : PA X (e :: es) t) (hkw : PK X kws tk) (hall : (backToKw pos (keywordEach kws X.env)).all (·.1.isSome) = true) (hks : (backToKw pos (keywordEach kws X.env)).filterMap (·.1) = ks)
    (hdb : (x == ("__debug__" : Str)) = false) (he : starEach (e :: es) X.env = (false, eval e X.env) :: starEach es X.env)
    (hpl : ((backTo pos (starEach (e :: es) X.env)).any (·.1) || (backToKw pos (keywordEach kws X.env)).any (·.1.isNone)) = false) :
    PE X (.Call (.Name x p) (e :: es) kws pos) (tMakeS C n ks.length sp gV E t tk) := by
  refine ⟨fun pins s σ H Q I h => ?_⟩
  refine wpAny_Call_Name_kw (ld_glob I hg hm ?_ hdb)
  refine PySem.W.callWith_KW (h₀ := X.base) I.ok.mod.kin M.kp hall (thn (ha.run pos pins s σ H _ I h) fun us s1 ⟨vs, H1, I1, r, q⟩ => ?_) hpl he
  refine thn (hkw.run pos pins s1 σ H1 _ I1 q) fun ws s2 ⟨zs, H2, I2, rz, l1, l2, q2⟩ => ⟨I2.kIn, ?_⟩
  rw [hks]
  exact run_makeS M F hr hb (hx σ) I2 r rz l1 l2 q2
end

section
variable {T : CTab} {G : Prg} {W : WN} {F : Fns} {σ : St} {H : Hp} {Q : VK}
theorem As.app_len : ∀ (as bs : As), (as.app bs).len = as.len + bs.len
  | .nil, bs => by show bs.len = 0 + bs.len; omega
  | .mv i p as, bs => by show (as.app bs).len + 1 = as.len + 1 + bs.len; rw [As.app_len as bs]; omega
  | .e f x as, bs => by show (as.app bs).len + 1 = as.len + 1 + bs.len; rw [As.app_len as bs]; omega
theorem rd_make {as kas : As} {c f n nn mm : Nat} {ds : List PV} {dvs : List V} {gV : List V → List V → List V} {ma mk' : DEnv → R (List (Option PV))} (hds : ∀ Hf H, Reps T Hf H ds dvs []) (hn : as.len + kas.len + ds.length + 1 = nn) (l1 : as.len = n) (l2 : kas.len = mm)
    (hg : ∀ vs zs : List V, vs.length = n + 1 → zs.length = mm → gV vs zs = vs ++ (zs ++ dvs))
    (h : rd T (relV T) W (fun env => (ma env).bind fun xs env => (mk' env).bind fun zs env => match takeOut (as.app kas) (xs ++ zs) env with
      | some (ys, env) => match F f (.ins true c [] :: (ys ++ ds)) with
        | .ok .non (some x :: ps) => .ok x (putBack (as.app kas) ps env)
        | .exc d (_ :: ps) => .exc d (putBack (as.app kas) ps env)
        | _ => .bad
      | none => .bad) σ H Q) : tMakeS (T.adr c) n mm (spDen T F nn f) gV (ExD T W) (rd T (relA T as) W ma) (rd T (relA T kas) W mk') σ H Q := by
  obtain ⟨Hf, env, O, S, p⟩ := h
  refine ⟨Hf, env, O, S, Post.mono (Post.first S p) ?_⟩
  rintro vs H1 ⟨xs, Hf1, env1, O1, Oa, S1, ra, nx, dx, N1, p1⟩
  refine ⟨Hf1, env1, O1, S1, Post.mono (Post.step (rel := relA T kas σ) N1 nx dx ra.there p1) ?_⟩
  rintro zs H2 ⟨xs2, Hf2, env2, O2, Ob, S2, rb, ny, dy, N2, kx, sf, p2⟩
  have ra2 := (ra.move sf kx).app rb
  split at p2
  · rename_i ys env3 et
    refine ⟨by rw [ra.vlen]; exact l1, by rw [rb.vlen]; exact l2, fun x dx' hx hdx hne => ?_⟩
    have e1 : gV (.ref x :: vs) zs = .ref x :: ((vs ++ zs) ++ dvs) := by
      rw [hg _ _ (by rw [List.length_cons, ra.vlen, l1]) (by rw [rb.vlen]; exact l2)]
      simp
    rw [e1]
    exact make_den (W := fun c => W c σ) S2 ra2 ny dy N2 et hds (by rw [As.app_len]; omega) hx hdx hne p2
  · exact p2.elim
end
end DN

set_option Elab.async false
set_option linter.all false
set_option maxRecDepth 100000
set_option maxHeartbeats 4000000
/-! DEN, part 15: what is checked of an expression; the parts' soundness put together. -/
namespace DN
open PySem PySem.Spec PyProof.Rows L2

/-! ### checks -/
def tyNames : List String := ["int", "bool", "str", "list", "tuple", "dict"]
def twoB : B → B → Bool
  | .e _, _ => true
  | .p _, .p _ => true
  | .p _, .e (.q _) => true
  | _, _ => false
def blkB (N : List Str) (sc scope : Scope) (own : List (Str × Nat)) : Bool :=
  scope.kind == .function && (scope.names.all fun y => scope.names.lookup y.1 == some y.2) && (own.all fun p => N[p.2]? == some p.1) &&
  (scope.names.all fun y => !(y.2 == .free) || (sc.names.lookup y.1 == some .cell || sc.names.lookup y.1 == some .free)) &&
  (scope.names.all fun y => !(y.2 == .local || y.2 == .cell) || ((own.map (·.1)).contains y.1 || !N.contains y.1))
def E.noc : E → Bool
  | .call _ .nil _ _ => false
  | .make _ .nil _ _ _ _ => false
  | _ => true
def Tg.isTup : Tg → Bool
  | .one _ _ => false
  | .tup _ _ _ => true
def Ts.some : Ts → Bool
  | .nil => false
  | .cons _ _ => true
def Ts.few : Ts → Bool
  | .nil => true
  | .cons _ .nil => true
  | .cons _ (.cons _ _) => false
section
variable (G : Prg) (N : List Str) (nn L : Nat)
mutual
def E.wf (sc s2 : Scope) : E → Bool
  | .q a => a.wf G N sc
  | .mv i _ => nameAt N sc i
  | .fz i _ => nameAt N sc i
  | .bin _ a b _ => a.wf sc s2 && b.wf sc s2 && twoB a b
  | .cmp _ a b _ => a.wf sc s2 && b.wf sc s2 && twoB a b
  | .and e es _ => e.wf sc s2 && es.wf sc s2
  | .or e es _ => e.wf sc s2 && es.wf sc s2
  | .not a _ => a.wf sc s2
  | .ife t a b _ => t.wf sc s2 && a.wf sc s2 && b.wf sc s2
  | .f1 f a _ _ => glB sc f.name && a.wf sc s2
  | .f2 f a b _ _ => glB sc f.name && a.wf sc s2 && b.wf sc s2
  | .isi a c _ _ _ => glB sc "isinstance" && glB sc (Str.ofString c) && tyNames.contains c && a.wf G N sc
  | .isi2 a c d _ _ _ _ _ _ => glB sc "isinstance" && glB sc (Str.ofString c) && tyNames.contains c && glB sc (Str.ofString d) && tyNames.contains d && a.wf G N sc
  | .isiO _ _ _ _ _ => false
  | .tup es _ _ => es.wf sc s2
  | .lst es _ => es.wf sc s2
  | .ixE e k _ => e.wf sc s2 && k.wf sc s2
  | .call f as _ _ => decide (f < nn) && callB G f && glB sc (G.dn.getD f "") && as.wf sc s2 && as.len == G.np.getD f 0 && decide (0 < as.len) && decide (G.lv.getD f 0 ≤ L)
  | .make m as kas kn _ _ => decide (m < G.mks.length) && decide ((G.mkAt m).2.1 < nn) && glB sc (G.cn.getD (G.mkAt m).1 "") && as.wf sc s2 && kas.wf sc s2 && as.len == (G.mkAt m).2.2.1 && decide (0 < as.len) &&
    kn.map (·.1) == (G.mkAt m).2.2.2.1 && kas.len == kn.length && decide (G.lv.getD (G.mkAt m).2.1 0 + 1 ≤ L) && as.len + kas.len + (G.mkAt m).2.2.2.2.length + 1 == G.np.getD (G.mkAt m).2.1 0
  | .methE e m c f as pa p => decide (as.len < 30) && pa.endLine == p.line && G.mt.contains (c, m, f) && decide (f < nn) && decide (G.lv.getD f 0 ≤ L) && as.len + 1 == G.np.getD f 0 && e.wf sc s2 && as.wf sc s2 && e.noc
  | .prop e m c f _ => G.pt.contains (c, m, f) && decide (f < nn) && decide (G.lv.getD f 0 + 1 ≤ L) && G.np.getD f 0 == 1 && e.wf sc s2 && e.noc
  | .pop b pa p => b.wf G N sc && pa.endLine == p.line
  | .lc e tg it t scope own _ => it.wf sc s2 tg.isTup && blkB N sc scope own && tg.wf N scope && tg.vars.all (own.map (·.2)).contains && decide (own.map (·.2)).Nodup && e.wf (relS scope sc) scope && t.wf (relS scope sc) scope && t.few
def B.wf (sc s2 : Scope) : B → Bool
  | .e x => x.wf sc s2
  | .p b => b.wf G N sc
def Es.wf (sc s2 : Scope) : Es → Bool
  | .nil => true
  | .cons x es => x.wf sc s2 && es.wf sc s2
def As.wf (sc s2 : Scope) : As → Bool
  | .nil => true
  | .mv i _ as => nameAt N sc i && as.wf sc s2
  | .e _ x as => x.wf sc s2 && as.wf sc s2
def Tt.wf (sc s2 : Scope) : Tt → Bool
  | .v b => b.wf sc s2 && b.truB
  | .cmp _ a b _ => a.wf sc s2 && b.wf sc s2 && twoB a b
  | .not t _ => t.wf sc s2
  | .and ts _ => ts.wf sc s2 && ts.some
  | .or ts _ => ts.wf sc s2 && ts.some
def Ts.wf (sc s2 : Scope) : Ts → Bool
  | .nil => true
  | .cons t ts => t.wf sc s2 && ts.wf sc s2
/-- tu: the target is a tuple of names -/
def It.wf (sc s2 : Scope) (tu : Bool) : It → Bool
  | .e x => x.wf sc s2
  | .r1 a _ _ => glB sc "range" && a.wf sc s2
  | .r2 a b _ _ => glB sc "range" && a.wf sc s2 && b.wf sc s2
  | .r3 a b c _ _ => glB sc "range" && a.wf sc s2 && b.wf sc s2 && c.wf sc s2
  | .enum x _ _ => glB sc "enumerate" && x.wf sc s2 && tu
end
end

/-- the facts at hand where code runs -/
structure EC (T : CTab) (G : Prg) (F : Fns) (N : List Str) (nn L : Nat) (sc s2 : Scope) (X : Cx) (W : WN) : Prop where
  c : XC T G N sc X
  so : StOk s2 sc X
  pass : PassD T X W
  room : Room L X.A
  fn : ∀ f, f < nn → DefOk X.prog X.w X.mg X.base T G F f
  top : TopC T G X.mg

section
variable {T : CTab} {G : Prg} {F : Fns} {N : List Str} {nn L : Nat} {sc s2 : Scope} {X : Cx} {W : WN}
theorem rd_congr {α β : Type} {rel : St → Hp → Hp → α → β → List Addr → Prop} {m m' : DEnv → R α} (e : ∀ env, m env = m' env) {σ : St} {H : Hp} {Q : β → Hp → Prop} (h : rd T rel W m σ H Q) : rd T rel W m' σ H Q := by
  rwa [show m' = m from funext fun env => (e env).symm]
theorem pe_rd {e : Expr} {t : TE} {m : DEnv → R PV} (h : PE X e t) (k : ∀ σ H Q, rd T (relV T) W m σ H Q → t σ H Q) : PE X e (rd T (relV T) W m) := PE.imp h k
/-- a block -/
theorem EC.blk (C : EC T G F N nn L sc s2 X W) {scope : Scope} (s : Shared) (H : Hp) (D : Addr) (cl : List (Str × Addr)) (fp : List Addr) : EC T G F N nn L (relS scope sc) scope (X.blk s H scope (compEnvC scope cl D X.env) fp) WF := by
  refine ⟨⟨C.c.eN, C.c.nd, by show relS scope X.env.scope = _; rw [C.c.sc], C.c.K, C.c.calm, C.c.top, C.c.un⟩, fun x hx => ?_, passWF, C.room, C.fn, C.top⟩
  unfold stB at hx
  rw [Bool.or_eq_true] at hx
  rcases hx with h | h
  · have h' : scope.names.lookup x = some .local := by simpa using h
    have z : (relS scope sc).names.lookup x = some .local := lookup_relS_keep (by intro q; cases q) h'
    exact ⟨.inl z, .inr z⟩
  · have h' : scope.names.lookup x = some .cell := by simpa using h
    have z : (relS scope sc).names.lookup x = some .cell := lookup_relS_keep (by intro q; cases q) h'
    exact ⟨.inr z, .inl h⟩
theorem blkB_ok {scope : Scope} {own : List (Str × Nat)} (h : blkB N sc scope own = true) : BlkOk N sc scope own := by
  unfold blkB at h
  simp only [Bool.and_eq_true] at h
  obtain ⟨⟨⟨⟨h1, h2⟩, h3⟩, h4⟩, h5⟩ := h
  refine ⟨by simpa using h1, fun y hy => ?_, fun p hp => ?_, fun y hy e => ?_, fun y hy e => ?_⟩
  · simpa using List.all_eq_true.mp h2 y hy
  · simpa using List.all_eq_true.mp h3 p hp
  · have z := List.all_eq_true.mp h4 y hy
    rw [e] at z
    rw [Bool.or_eq_true] at z
    rcases z with z | z
    · cases z
    · rw [Bool.or_eq_true] at z
      exact z.imp (fun q => by simpa using q) fun q => by simpa using q
  · have z := List.all_eq_true.mp h5 y hy
    rw [Bool.or_eq_true] at z
    rcases z with z | z
    · exfalso
      rcases e with e | e <;> rw [e] at z <;> cases z
    · rw [Bool.or_eq_true] at z
      rcases z with z | z
      · exact .inl (by simpa using z)
      · exact .inr (by simpa using z)

theorem DefOk.congrK {P : Program} {w : World} {mg : Str → Option Value} {base : Heap} {f : Nat} {K : PySem.W.Frag} (d : DefOk P w mg base T G F f) (e : K = T.K) :
    FnOk P w K mg base (L2.CX P w) (G.lv.getD f 0) (T.fa f) (T.fd f) (T.fp f) (spDen T F (G.np.getD f 0) f) := by rw [e]; exact d
/-! ### operands -/
def BS (T : CTab) (G : Prg) (F : Fns) (N : List Str) (sc : Scope) (X : Cx) (W : WN) : B → Prop
  | .e x => PE X (x.emb G N) (rd T (relV T) W (x.ev G F)) ∧ ∀ k, x = .q k → k.wf G N sc = true
  | .p b => b.wf G N sc = true
theorem B_ev_e {x : E} {env : DEnv} : (B.e x).ev G F env = x.ev G F env := by unfold B.ev; rfl
theorem two_sound (C : EC T G F N nn L sc s2 X W) {a b : B} (ha : BS T G F N sc X W a) (hb : BS T G F N sc X W b) (ok : twoB a b = true) (f : PV → PV → Option PV) :
    ∃ ta tb, PE X (a.emb G N) ta ∧ PE X (b.emb G N) tb ∧ ∀ σ H Q, rd T (relV T) W (fun env => (a.ev G F env).bind fun x env => (b.ev G F env).bind fun y env => R.of (f x y) env) σ H Q → tOp (rTwo T f) ta tb σ H Q := by
  cases a with
  | e x =>
    have pa : PE X ((B.e x).emb G N) (rd T (relV T) W (x.ev G F)) := by unfold B.emb; exact ha.1
    cases b with
    | e y =>
      have pb : PE X ((B.e y).emb G N) (rd T (relV T) W (y.ev G F)) := by unfold B.emb; exact hb.1
      exact ⟨_, _, pa, pb, fun σ H Q h => two_vv (rd_congr (fun env => by simp only [B_ev_e]) h)⟩
    | p y =>
      have pb : PE X ((B.p y).emb G N) (rdP T G y) := by unfold B.emb; exact P.sound C.c y hb
      exact ⟨_, _, pa, pb, fun σ H Q h => two_vp (F := F) (rd_congr (fun env => by simp only [B_ev_e]) h)⟩
  | p x =>
    have pa : PE X ((B.p x).emb G N) (rdP T G x) := by unfold B.emb; exact P.sound C.c x ha
    cases b with
    | e y =>
      cases y with
      | q k =>
        have pb : PE X ((B.e (.q k)).emb G N) (rdQ T G k) := by unfold B.emb E.emb; exact Qe.sound C.c k (hb.2 k rfl)
        exact ⟨_, _, pa, pb, fun σ H Q h => two_pq (F := F) h⟩
      | _ => cases ok
    | p y =>
      have pb : PE X ((B.p y).emb G N) (rdP T G y) := by unfold B.emb; exact P.sound C.c y hb
      exact ⟨_, _, pa, pb, fun σ H Q h => two_pp (F := F) h⟩
theorem s_bin (C : EC T G F N nn L sc s2 X W) {o : Operator} {a b : B} {p : Pos} (ha : BS T G F N sc X W a) (hb : BS T G F N sc X W b) (ok : twoB a b = true) : PE X ((E.bin o a b p).emb G N) (rd T (relV T) W ((E.bin o a b p).ev G F)) := by
  obtain ⟨ta, tb, pa, pb, k⟩ := two_sound C ha hb ok (binP o)
  unfold E.emb
  exact pe_rd (pe_op op_two_bin pa pb) fun σ H Q h => k σ H Q (rd_congr (fun env => by unfold E.ev; rfl) h)
theorem s_cmp (C : EC T G F N nn L sc s2 X W) {o : CmpOp} {a b : B} {p : Pos} (ha : BS T G F N sc X W a) (hb : BS T G F N sc X W b) (ok : twoB a b = true) : PE X ((E.cmp o a b p).emb G N) (rd T (relV T) W ((E.cmp o a b p).ev G F)) := by
  obtain ⟨ta, tb, pa, pb, k⟩ := two_sound C ha hb ok (fun x y => (cmpP o x y).map .bl)
  unfold E.emb
  exact pe_rd (pe_cmpR (op_two_cmp C.c.un) pa pb (hdA_mark (b.hd G N))) fun σ H Q h => k σ H Q (rd_congr (fun env => by unfold E.ev; rfl) h)
theorem map_bl {o : Option Bool} {env : DEnv} {σ σ' : St} {H Hf : Hp} {O : List Addr} {W : Nat → Hp → Prop} {Q : Bool → Hp → Prop} (h : Post T (relB σ') W σ H Hf O (R.of o env) Q) : Post T (Rep T) W σ H Hf O (R.of (o.map PV.bl) env) (fun v H => ∃ k, v = .bl k ∧ Q k H) := by
  cases o with
  | none => exact h.elim
  | some c =>
    intro v H' Hf' O' Ox S r nd d n
    cases r
    exact ⟨c, rfl, h c H' Hf' O' [] S ⟨rfl, rfl⟩ nd d n⟩
theorem s_tcmp (C : EC T G F N nn L sc s2 X W) {o : CmpOp} {a b : B} {p : Pos} (ha : BS T G F N sc X W a) (hb : BS T G F N sc X W b) (ok : twoB a b = true) : PT X ((Tt.cmp o a b p).emb G N) (rd T relB W ((Tt.cmp o a b p).ev G F)) := by
  obtain ⟨ta, tb, pa, pb, k⟩ := two_sound C ha hb ok (fun x y => (cmpP o x y).map .bl)
  unfold Tt.emb
  refine ⟨fun pins s σ H Q I h => (pt_cmpR (op_two_cmp (T := T) C.c.un) pa pb (hdA_mark (b.hd G N))).run pins s σ H Q I (k σ H _ ?_)⟩
  obtain ⟨Hf, env, O, S, q⟩ := h
  refine ⟨Hf, env, O, S, ?_⟩
  unfold Tt.ev at q
  have key : ∀ (r : R PV), Post T (relB σ) (fun c => W c σ) σ H Hf O (r.bind fun x env => (b.ev G F env).bind fun y env => R.of (cmpP o x y) env) Q →
      Post T (relV T σ) (fun c => W c σ) σ H Hf O (r.bind fun x env => (b.ev G F env).bind fun y env => R.of ((cmpP o x y).map PV.bl) env) (fun v H => ∃ k, v = .bl k ∧ Q k H) := fun r h => by
    cases r with
    | ok x env1 =>
      show Post T _ _ σ H Hf O ((b.ev G F env1).bind fun y env => R.of ((cmpP o x y).map PV.bl) env) _
      have h : Post T (relB σ) (fun c => W c σ) σ H Hf O ((b.ev G F env1).bind fun y env => R.of (cmpP o x y) env) Q := h
      cases e : b.ev G F env1 with
      | ok y env2 => rw [e] at h; exact map_bl h
      | exc c env2 => rw [e] at h; exact h
      | bad => rw [e] at h; exact h
    | exc c env1 => exact h
    | bad => exact h
  exact key _ q
/-- one operand -/
theorem one_sound (C : EC T G F N nn L sc s2 X W) {a : B} (ha : BS T G F N sc X W a) : ∃ ta, PE X (a.emb G N) ta ∧ (∀ (f : PV → Option PV) (r : List V → Hp → VK → Prop), (∀ v x z Hf Ox H Q, f x = some z → Rep T Hf H x v Ox → Same Hf H → Fresh T H Hf z Q → r [v] H Q) →
      ∀ σ H Q, rd T (relV T) W (fun env => (a.ev G F env).bind fun x env => R.of (f x) env) σ H Q → tCB r (tCons ta tNil) σ H Q) ∧
    ∀ σ H Q, rd T relB W (fun env => (a.ev G F env).bind fun x env => R.of (truP x) env) σ H Q → ta σ H fun v H' => ∃ k, TruV X.K v H' k ∧ Q k H' := by
  cases a with
  | e x =>
    have pa : PE X ((B.e x).emb G N) (rd T (relV T) W (x.ev G F)) := by unfold B.emb; exact ha.1
    refine ⟨_, pa, fun f r hr σ H Q h => one_v hr (rd_congr (fun env => by simp only [B_ev_e]) h), fun σ H Q h => ?_⟩
    obtain ⟨Hf, env, O, S, p⟩ := h
    dsimp only at p
    rw [B_ev_e] at p
    refine ⟨Hf, env, O, S, Post.mono (Post.first S p) ?_⟩
    rintro v H1 ⟨y, Hf1, env1, O1, Ox, S1, rx, nx, dx, N1, p1⟩
    obtain ⟨c, ec, p2⟩ := of_some p1
    exact ⟨c, tru_P S1.sub rx ec, p2 c H1 Hf1 O1 [] S1 ⟨rfl, rfl⟩ (nd0 S1.nd) (fun _ h => nomatch h) (nx0 (N1.weak fun a h => List.mem_append_left _ h))⟩
  | p b =>
    have pa : PE X ((B.p b).emb G N) (rdP T G b) := by unfold B.emb; exact P.sound C.c b ha
    refine ⟨_, pa, fun f r hr σ H Q h => one_p (F := F) hr h, fun σ H Q h => ?_⟩
    obtain ⟨Hf, env, O, S, p⟩ := h
    dsimp only at p
    cases ea : b.loc G env with
    | none => rw [evp_none ea] at p; exact p.elim
    | some q =>
      obtain ⟨i, ks, x⟩ := q
      rw [evp_some ea] at p
      refine ⟨Hf, env, O, S, i, ks, x, ea, fun v st fo => ?_⟩
      obtain ⟨c, ec, p2⟩ := of_some (o := truP x) p
      obtain ⟨_, Pm, _, _, rx, _⟩ := fo.ex
      exact ⟨c, tru_P S.sub rx ec, p2 c H Hf O [] S ⟨rfl, rfl⟩ (nd0 S.nd) (fun _ h => nomatch h) (nx0 (Nxt.refl _ _ _))⟩
end
end DN

set_option Elab.async false
set_option linter.all false
set_option maxRecDepth 100000
set_option maxHeartbeats 4000000
/-! DEN, part 16: every expression is sound. -/
namespace DN
open PySem PySem.Spec PyProof.Rows L2

section
variable {X : Cx}
theorem PA.imp {es : List Expr} {t t' : TA} (h : PA X es t) (k : ∀ σ H Q, t' σ H Q → t σ H Q) : PA X es t' := ⟨fun pos pins s σ H Q I hw => h.run pos pins s σ H Q I (k σ H Q hw)⟩
theorem PK.imp {es : List Keyword} {t t' : TA} (h : PK X es t) (k : ∀ σ H Q, t' σ H Q → t σ H Q) : PK X es t' := ⟨fun pos pins s σ H Q I hw => h.run pos pins s σ H Q I (k σ H Q hw)⟩
theorem PT.imp {e : Expr} {t t' : TT} (h : PT X e t) (k : ∀ σ H Q, t' σ H Q → t σ H Q) : PT X e t' := ⟨fun pins s σ H Q I hw => h.run pins s σ H Q I (k σ H Q hw)⟩
theorem PW.imp {e : Expr} {t t' : TT} (h : PW X e t) (k : ∀ σ H Q, t' σ H Q → t σ H Q) : PW X e t' := ⟨fun w pins s σ H Q I hw => h.run w pins s σ H Q I (k σ H Q hw)⟩
theorem PTs.imp {e : List Expr} {t t' : TT} (h : PTs X e t) (k : ∀ σ H Q, t' σ H Q → t σ H Q) : PTs X e t' := ⟨fun pins s σ H Q I hw => h.run pins s σ H Q I (k σ H Q hw)⟩
theorem PI.imp {tg e : Expr} {t t' : TI} (h : PI X tg e t) (k : ∀ σ H Q, t' σ H Q → t σ H Q) : PI X tg e t' := ⟨fun pins s σ H R I hw => h.run pins s σ H R I (k σ H R hw)⟩
end
section
variable {T : CTab} {G : Prg} {F : Fns} {N : List Str} {nn L : Nat} {sc s2 : Scope} {X : Cx} {W : WN}
theorem EC.gl (C : EC T G F N nn L sc s2 X W) {x : Str} (h : glB sc x = true) : Gl X x := (glB_gl C.c.sc h).1
theorem s_f1 (C : EC T G F N nn L sc s2 X W) {f : F1} {a : B} {pn p : Pos} (hg : glB sc f.name = true) (ha : BS T G F N sc X W a) : PE X ((E.f1 f a pn p).emb G N) (rd T (relV T) W ((E.f1 f a pn p).ev G F)) := by
  obtain ⟨ta, pa, k, _⟩ := one_sound C ha
  have hs := hdA_star (es := []) (env := X.env) (a.hd G N)
  have pA : PA X [a.emb G N] (tCons ta tNil) := pa_cons pa pa_nil hs
  have kk : ∀ σ H Q, rd T (relV T) W ((E.f1 f a pn p).ev G F) σ H Q → tCB (rF1 T f) (tCons ta tNil) σ H Q := fun σ H Q h =>
    k (f1P f) (rF1 T f) (fun v x z Hf Ox H Q e rx s fr => ⟨v, x, z, Hf, Ox, rfl, e, rx, s, fr⟩) σ H Q (rd_congr (fun env => by (conv => lhs; unfold E.ev) <;> rfl) h)
  have c := call_f1 (T := T) (f := f) C.c.calm C.c.K
  unfold E.emb
  cases f with
  | len => exact pe_rd (pe_callB c (C.gl hg) (C.c.top.bi _ (by decide)) PySem.boot_len pA (by decide) (by decide) hs rfl) kk
  | sum => exact pe_rd (pe_callB c (C.gl hg) (C.c.top.bi _ (by decide)) PyProof.Rows.boot_sum pA (by decide) (by decide) hs rfl) kk
  | list => exact pe_rd (pe_callTy c (C.gl hg) (C.c.top.bi _ (by decide)) PyProof.Rows.boot_list pA (by decide) (by decide) hs rfl) kk
  | tuple => exact pe_rd (pe_callTy c (C.gl hg) (C.c.top.bi _ (by decide)) PyProof.Rows.boot_tuple pA (by decide) (by decide) hs rfl) kk
  | int => exact pe_rd (pe_callTy c (C.gl hg) (C.c.top.bi _ (by decide)) PyProof.Rows.boot_int pA (by decide) (by decide) hs rfl) kk
theorem s_f2 (C : EC T G F N nn L sc s2 X W) {f : F2} {a b : E} {pn p : Pos} (hg : glB sc f.name = true) (ha : PE X (a.emb G N) (rd T (relV T) W (a.ev G F))) (hb : PE X (b.emb G N) (rd T (relV T) W (b.ev G F))) :
    PE X ((E.f2 f a b pn p).emb G N) (rd T (relV T) W ((E.f2 f a b pn p).ev G F)) := by
  have hs := hdA_star (es := [b.emb G N]) (env := X.env) (a.hd G N)
  have hs2 := hdA_star (es := []) (env := X.env) (b.hd G N)
  have pA : PA X [a.emb G N, b.emb G N] (tCons _ (tCons _ tNil)) := pa_cons ha (pa_cons hb pa_nil hs2) hs
  have kk : ∀ σ H Q, rd T (relV T) W ((E.f2 f a b pn p).ev G F) σ H Q → tCB (rF2 T f) (tCons (rd T (relV T) W (a.ev G F)) (tCons (rd T (relV T) W (b.ev G F)) tNil)) σ H Q := fun σ H Q h =>
    two_f2 (f := f2P f) (fun v u x y z Hf Ox Oy H Q e rx ry s fr => ⟨v, u, x, y, z, Hf, Ox, Oy, rfl, e, rx, ry, s, fr⟩) (rd_congr (fun env => by (conv => lhs; unfold E.ev) <;> rfl) h)
  have c := call_f2 (T := T) (X := X) (f := f) C.c.calm
  have hpl : (backTo p (starEach [b.emb G N] X.env)).any (·.1) = false := hdA_any fun e he => by
    have z : e = b.emb G N := by simpa using he
    rw [z]; exact b.hd G N
  unfold E.emb
  cases f with
  | min => exact pe_rd (pe_callB c (C.gl hg) (C.c.top.bi _ (by decide)) PyProof.Rows.boot_min pA (by decide) (by decide) hs hpl) kk
  | max => exact pe_rd (pe_callB c (C.gl hg) (C.c.top.bi _ (by decide)) PyProof.Rows.boot_max pA (by decide) (by decide) hs hpl) kk
theorem ty_boot : ∀ c ∈ tyNames, bootBuiltins (Str.ofString c) = some (.type c) ∧ Str.ofString c ∈ biNames ∧ Str.ofString c ≠ "__name__" ∧ (Str.ofString c == ("__debug__" : Str)) = false := by
  decide +kernel
theorem pe_tyn (C : EC T G F N nn L sc s2 X W) {c : String} {pc : Pos} (hg : glB sc (Str.ofString c) = true) (hc : tyNames.contains c = true) : PE X (.Name (Str.ofString c) pc) (tC (.ty c)) := by
  obtain ⟨h1, h2, h3, h4⟩ := ty_boot c (by simpa using hc)
  exact pe_bltn (v := .ty c) (C.gl hg) (C.c.top.bi _ h2) h1 rfl h3 h4
theorem s_isi (C : EC T G F N nn L sc s2 X W) {a : Qe} {c : String} {pn pc p : Pos} (h1 : glB sc "isinstance" = true) (h2 : glB sc (Str.ofString c) = true) (h3 : tyNames.contains c = true) (ha : a.wf G N sc = true) :
    PE X ((E.isi a c pn pc p).emb G N) (rd T (relV T) W ((E.isi a c pn pc p).ev G F)) := by
  have hs := hdA_star (es := [.Name (Str.ofString c) pc]) (env := X.env) (a.hd G N)
  have pA := pa_cons (Qe.sound C.c a ha) (pa_cons (pe_tyn C (pc := pc) h2 h3) pa_nil rfl) hs
  unfold E.emb
  refine pe_rd (pe_callB (call_isi (X := X)) (C.gl h1) (C.c.top.bi _ (by decide)) PyProof.Rows.boot_isinstance pA (by decide) (by decide) hs rfl) fun σ H Q h => ?_
  obtain ⟨Hf, env, O, S, q⟩ := h
  unfold E.ev at q
  cases e : a.ev G env with
  | none => rw [e] at q; exact q.elim
  | some x =>
    rw [e] at q
    obtain ⟨y, ey, q⟩ := of_some q
    have ey' : (isiP x (.ty c)).map PV.bl = some y := ey
    cases eb : isiP x (.ty c) with
    | none => rw [eb] at ey'; cases ey'
    | some b =>
      rw [eb] at ey'
      cases ey'
      obtain ⟨t, e1, e2⟩ := isi_ty eb
      exact ⟨Hf, env, O, S, x, e, fun v r => ⟨v, .ty c, .type t, .type c, b, rfl, .ty c, ty_of S.sub r e1, kit_ty e2, q (.bl b) H Hf O [] S (.bl b) (nd0 S.nd) (fun _ h => nomatch h) (nx0 (Nxt.refl _ _ _))⟩⟩
theorem s_isi2 (C : EC T G F N nn L sc s2 X W) {a : Qe} {c d : String} {k : Nat} {pn pc pd pt p : Pos} (h1 : glB sc "isinstance" = true) (h2 : glB sc (Str.ofString c) = true) (h3 : tyNames.contains c = true) (h4 : glB sc (Str.ofString d) = true) (h5 : tyNames.contains d = true) (ha : a.wf G N sc = true) :
    PE X ((E.isi2 a c d k pn pc pd pt p).emb G N) (rd T (relV T) W ((E.isi2 a c d k pn pc pd pt p).ev G F)) := by
  have hs := hdA_star (es := [.Tuple [.Name (Str.ofString c) pc, .Name (Str.ofString d) pd] k pt]) (env := X.env) (a.hd G N)
  have pA := pa_cons (Qe.sound C.c a ha) (pa_cons (pe_tup (x1 := k) (pos := pt) (pa_cons (pe_tyn C (pc := pc) h2 h3) (pa_cons (pe_tyn C (pc := pd) h4 h5) pa_nil rfl) rfl)) pa_nil rfl) hs
  unfold E.emb
  refine pe_rd (pe_callB (call_isiT (X := X)) (C.gl h1) (C.c.top.bi _ (by decide)) PyProof.Rows.boot_isinstance pA (by decide) (by decide) hs rfl) fun σ H Q h => ?_
  obtain ⟨Hf, env, O, S, q⟩ := h
  unfold E.ev at q
  cases e : a.ev G env with
  | none => rw [e] at q; exact q.elim
  | some x =>
    rw [e] at q
    obtain ⟨y, ey, q⟩ := of_some q
    have ey' : (isiPs x [.ty c, .ty d]).map PV.bl = some y := ey
    cases eb : isiPs x [.ty c, .ty d] with
    | none => rw [eb] at ey'; cases ey'
    | some b =>
      rw [eb] at ey'
      cases ey'
      refine ⟨Hf, env, O, S, x, e, fun v r => ⟨by show 2 ≤ sizeLine; decide, fun tp hp => ?_⟩⟩
      have su := same_upd (o := .tup [.ty c, .ty d]) hp
      have r2 : Rep T Hf (upd H tp (.tup [.ty c, .ty d])) x v [] := r.still (Same.refl _)
      have S2 : ST T σ (upd H tp (.tup [.ty c, .ty d])) Hf env O := S.grow (Same.refl _) su (S.sub.trans su) fun _ h => .inl h
      have tx : ∃ t, x.ty = some t ∧ PySem.W.kitAny X.K (.type t) [.type c, .type d] = some b := by
        unfold isiPs at eb
        cases e1 : isiP x (.ty c) with
        | none => rw [e1] at eb; cases eb
        | some b1 =>
          obtain ⟨t, t1, t2⟩ := isi_ty e1
          rw [e1] at eb
          cases b1 with
          | true =>
            cases eb
            exact ⟨t, t1, kitAny_cons (kit_ty t2) (fun z => nomatch z) fun _ => rfl⟩
          | false =>
            have eb' : isiPs x [.ty d] = some b := eb
            unfold isiPs at eb'
            cases e2 : isiP x (.ty d) with
            | none => rw [e2] at eb'; cases eb'
            | some b2 =>
              obtain ⟨t', t1', t2'⟩ := isi_ty e2
              rw [t1] at t1'
              cases t1'
              rw [e2] at eb'
              cases b2 with
              | true =>
                cases eb'
                exact ⟨t, t1, kitAny_cons (kit_ty t2) (fun _ => kitAny_cons (kit_ty t2') (fun z => nomatch z) fun _ => rfl) fun z => nomatch z⟩
              | false =>
                cases eb'
                exact ⟨t, t1, kitAny_cons (kit_ty t2) (fun _ => kitAny_cons (kit_ty t2') (fun _ => kitAny_nil) fun z => nomatch z) fun z => nomatch z⟩
      obtain ⟨t, t1, t2⟩ := tx
      refine ⟨v, tp, [.ty c, .ty d], .type t, [.type c, .type d], b, rfl, upd_same, .cons (.ty c) (.cons (.ty d) .nil), ty_of S2.sub r2 t1, t2, ?_⟩
      exact q (.bl b) _ Hf O [] S2 (.bl b) (nd0 S2.nd) (fun _ h => nomatch h) (nx0 ⟨Same.refl _, fun b o _ e => su b o e, fun _ h => .inl h, fun _ h => .inl h⟩)
theorem s_pop (C : EC T G F N nn L sc s2 X W) {b : P} {pa p : Pos} (hb : b.wf G N sc = true) (hl : (pa.endLine == p.line) = true) : PE X ((E.pop b pa p).emb G N) (rd T (relV T) W ((E.pop b pa p).ev G F)) := by
  unfold E.emb
  exact pe_rd (pe_bm0 PySem.F.plainAttrs_list PySem.F.slot_list_pop PySem.F.type_list_pop mt_pop (P.sound C.c b hb) (attr_base (b.nocall G N)) hl) fun σ H Q h => rd_pop (rd_congr (fun env => by (conv => lhs; unfold E.ev) <;> rfl) h)
theorem s_call (C : EC T G F N nn L sc s2 X W) {f : Nat} {as : As} {pn p : Pos} (h1 : f < nn) (h2 : callB G f = true) (h3 : glB sc (G.dn.getD f "") = true) (h4 : as.len = G.np.getD f 0) (h5 : 0 < as.len) (h6 : G.lv.getD f 0 ≤ L)
    (ha : PA X (as.emb G N) (rd T (relA T as) W (as.ev G F))) : PE X ((E.call f as pn p).emb G N) (rd T (relV T) W ((E.call f as pn p).ev G F)) := by
  unfold callB at h2
  cases q : G.dn[f]? with
  | none => rw [q] at h2; cases h2
  | some x =>
    rw [q] at h2
    obtain ⟨c1, c2, c3, c4⟩ := C.top.call f x q (by simpa using h2)
    have ex : G.dn.getD f "" = x := by rw [List.getD_eq_getElem?_getD, q]; rfl
    rw [ex] at h3
    have hd := As.hds G N as
    unfold E.emb
    rw [ex]
    cases el : as.emb G N with
    | nil =>
      have := As.emb_len (G := G) N as
      rw [el] at this
      rw [← this] at h5
      cases h5
    | cons e es =>
      rw [el] at ha hd
      refine pe_rd (pe_callS ((C.fn f h1).congrK C.c.K) (C.room.mono h6) (C.gl h3) c1 (by rw [C.c.K]; exact c2) (by rw [C.c.K]; exact c3) C.pass ha c4 (hdA_star (hd e List.mem_cons_self)) (hdA_any fun y hy => hd y (List.mem_cons_of_mem _ hy))) fun σ H Q h => rd_call h4 (rd_congr (fun env => by (conv => lhs; unfold E.ev) <;> rfl) h)
end
end DN

set_option Elab.async false
set_option linter.all false
set_option maxRecDepth 100000
set_option maxHeartbeats 4000000
/-! DEN, part 17: every expression is sound (end). -/
namespace DN
open PySem PySem.Spec PyProof.Rows L2

theorem star_all {pos : Pos} {env : Env} : ∀ {es : List Expr}, (∀ e ∈ es, hdA e = true) → (backTo pos (starEach es env)).all (!·.1) = true
  | [], _ => rfl
  | e :: es, h => by
    rw [hdA_star (h e List.mem_cons_self)]
    have z := star_all (pos := pos) (env := env) (es := es) fun e he => h e (List.mem_cons_of_mem _ he)
    unfold backTo at z ⊢
    simpa using z
/-- the tree of a method's call -/
theorem meth_tree {o : Expr} {m : Str} {apos pos : Pos} {args : List Expr} {env : Env} (hbase : attributeBase o m env (eval o env) = eval o env) (hd : ∀ e ∈ args, hdA e = true) (hn : args.length < 30) (hline : (apos.endLine == pos.line) = true) :
    eval (.Call (.Attribute o m apos) args [] pos) env = (do
      let ov ← eval o env
      standAt apos.atName
      let (f, first) ← holding [ov] (getMethod ov m (do return (← importBound o env).getD true))
      callWith pos f first (backTo pos (starEach args env)) (backToKw pos (keywordEach [] env))) := by
  have hform : methodCallForm (args.length + ([] : List Keyword).length) (backTo pos (starEach args env)) (backToKw pos (keywordEach [] env)) = true := by
    unfold methodCallForm
    rw [star_all hd]
    show (true && true && decide (args.length + 0 + 0 < 30)) = true
    simpa using hn
  rw [arm_eval_Call, hbase]
  unfold methodCall calleeOf methodCallPos
  simp only [hform, hline, if_true, Bool.not_true, Bool.or_true]
  rfl
section
variable {T : CTab} {G : Prg} {F : Fns} {N : List Str} {nn L : Nat} {sc s2 : Scope} {X : Cx} {W : WN}
theorem s_make (C : EC T G F N nn L sc s2 X W) {m : Nat} {as kas : As} {kn : List (Nat × Pos)} {pn p : Pos} (h1 : m < G.mks.length) (h2 : (G.mkAt m).2.1 < nn) (h3 : glB sc (G.cn.getD (G.mkAt m).1 "") = true) (h4 : as.len = (G.mkAt m).2.2.1) (h5 : 0 < as.len)
    (h6 : kn.map (·.1) = (G.mkAt m).2.2.2.1) (h7 : kas.len = kn.length) (h8 : G.lv.getD (G.mkAt m).2.1 0 + 1 ≤ L) (h9 : as.len + kas.len + (G.mkAt m).2.2.2.2.length + 1 = G.np.getD (G.mkAt m).2.1 0)
    (ha : PA X (as.emb G N) (rd T (relA T as) W (as.ev G F))) (hk : PK X (zipKw G kn (kas.emb G N)) (rd T (relA T kas) W (kas.ev G F))) : PE X ((E.make m as kas kn pn p).emb G N) (rd T (relV T) W ((E.make m as kas kn pn p).ev G F)) := by
  have hm : G.mkAt m ∈ G.mks := by
    unfold Prg.mkAt
    rw [List.getD_eq_getElem?_getD, List.getElem?_eq_getElem h1]
    exact List.getElem_mem h1
  have hemb : (E.make m as kas kn pn p).emb G N = .Call (.Name (G.cn.getD (G.mkAt m).1 "") pn) (as.emb G N) (zipKw G kn (kas.emb G N)) p := by unfold E.emb; rfl
  have hev : ∀ env, (E.make m as kas kn pn p).ev G F env = ((as.ev G F env).bind fun xs env => (kas.ev G F env).bind fun zs env => match takeOut (as.app kas) (xs ++ zs) env with
      | some (ys, env) => match F (G.mkAt m).2.1 (.ins true (G.mkAt m).1 [] :: (ys ++ (G.mkAt m).2.2.2.2)) with
        | .ok .non (some x :: ps) => .ok x (putBack (as.app kas) ps env)
        | .exc d (_ :: ps) => .exc d (putBack (as.app kas) ps env)
        | _ => .bad
      | none => .bad) := fun env => by (conv => lhs; unfold E.ev) <;> rfl
  rw [hemb]
  generalize G.mkAt m = r at *
  obtain ⟨c, f, n, ks, ds⟩ := r
  dsimp only at *
  obtain ⟨g, gV, dvs, M, kb, hg, hds, c1, c2⟩ := C.top.make c f n ks ds hm
  have hd := As.hds G N as
  have ek : kwNames G kn = ks.map fun k => G.an.getD k "" := by
    unfold kwNames
    rw [← h6, List.map_map]
    rfl
  have lk : (kwNames G kn).length = kas.len := by unfold kwNames; rw [List.length_map, h7]
  have lks : ks.length = kas.len := by rw [← lk, ek, List.length_map]
  have hks : (backToKw p (keywordEach (zipKw G kn (kas.emb G N)) X.env)).filterMap (·.1) = kwNames G kn := kw_ks kn _ (by rw [As.emb_len]; exact h7)
  have hae : ∀ {es : List Expr}, as.emb G N = es → PA X es (rd T (relA T as) W (as.ev G F)) ∧ (∀ y ∈ es, hdA y = true) ∧ es.length = as.len := fun {es} q => ⟨q ▸ ha, q ▸ hd, by rw [← q]; exact As.emb_len N as⟩
  generalize as.emb G N = es0 at *
  obtain ⟨ha', hd', hl'⟩ := hae rfl
  cases es0 with
  | nil =>
    rw [← hl'] at h5
    cases h5
  | cons e es =>
    have he := hdA_star (es := es) (env := X.env) (hd' e List.mem_cons_self)
    have kb' : KBn X.K (T.fd f) (T.fp f) (as.len + 1) (kwNames G kn) g gV := by rw [C.c.K, h4, ek]; exact kb
    have hany : ((backTo p (starEach (e :: es) X.env)).any (·.1) || (backToKw p (keywordEach (zipKw G kn (kas.emb G N)) X.env)).any (·.1.isNone)) = false := by
      rw [hdA_any hd', kw_any]
      rfl
    have z := pe_makeS (p := pn) (pos := p) (n := as.len) (ks := kwNames G kn) (by rw [C.c.K]; exact M) ((C.fn f h2).congrK C.c.K) (C.room.mono h8) (C.gl h3) c1 kb' C.pass ha' hk (kw_all kn _) hks c2 he hany
    refine pe_rd z fun σ H Q h => ?_
    have w := rd_make (T := T) (F := F) (as := as) (kas := kas) (c := c) (f := f) (n := as.len) (mm := kas.len) (nn := G.np.getD f 0) hds h9 rfl rfl (fun vs zs l1 l2 => hg vs zs (by rw [l1, h4]) (by rw [l2, lks])) (rd_congr hev h)
    rw [lk]
    exact w
theorem s_methE (C : EC T G F N nn L sc s2 X W) {e : E} {m c f : Nat} {as : As} {pa p : Pos} (h1 : (c, m, f) ∈ G.mt) (h2 : f < nn) (h3 : G.lv.getD f 0 ≤ L) (h4 : as.len + 1 = G.np.getD f 0) (h5 : attributeBase (e.emb G N) (G.an.getD m "") X.env (eval (e.emb G N) X.env) = eval (e.emb G N) X.env) (h6 : as.len < 30) (h7 : (pa.endLine == p.line) = true)
    (he : PE X (e.emb G N) (rd T (relV T) W (e.ev G F))) (ha : PA X (as.emb G N) (rd T (relA T as) W (as.ev G F))) : PE X ((E.methE e m c f as pa p).emb G N) (rd T (relV T) W ((E.methE e m c f as pa p).ev G F)) := by
  obtain ⟨c1, c2, c3, c4⟩ := C.top.meth c m f h1
  have hd := As.hds G N as
  have key : ∀ {ta : TA}, (∀ σ H Q, rd T (relA T as) W (as.ev G F) σ H Q → ta σ H Q) → PE X (.Call (.Attribute (e.emb G N) (G.an.getD m "") pa) (as.emb G N) [] p) (tMethS (T.adr c) (G.an.getD m "") (spDen T F (G.np.getD f 0) f) (ExD T W) (rd T (relV T) W (e.ev G F)) ta) →
      PE X ((E.methE e m c f as pa p).emb G N) (rd T (relV T) W ((E.methE e m c f as pa p).ev G F)) := fun {ta} k z => by
    unfold E.emb
    refine pe_rd z fun σ H Q h => ?_
    have w := rd_methE (T := T) (F := F) (e := e) (as := as) (n := G.np.getD f 0) h4 c4 (rd_congr (m := (E.methE e m c f as pa p).ev G F) (fun env => by (conv => lhs; unfold E.ev) <;> rfl) h)
    obtain ⟨Hf, env, O, S, w⟩ := w
    exact ⟨Hf, env, O, S, Post.mono w fun v H1 ⟨a, dx, fs, q1, q2, q3, q4⟩ => ⟨a, dx, fs, q1, q2, q3, k _ _ _ q4⟩⟩
  cases el : as.emb G N with
  | nil =>
    have hn : as = .nil := by
      cases as with
      | nil => rfl
      | mv i p as => unfold As.emb at el; cases el
      | e fz x as => unfold As.emb at el; cases el
    subst hn
    refine key (ta := tNil) (fun σ H Q h => rdAs_nil (rd_congr (fun env => by (conv => lhs; unfold As.ev) <;> rfl) h)) ?_
    unfold As.emb
    exact pe_methD0 he (by rw [C.c.K]; exact c1) (by rw [C.c.K]; exact c2) ((C.fn f h2).congrK C.c.K) (C.room.mono h3) (by rw [C.c.K]; exact c3) C.pass (meth_tree h5 (fun _ h => nomatch h) (by decide) h7)
  | cons x xs =>
    rw [el] at hd
    refine key (ta := rd T (relA T as) W (as.ev G F)) (fun _ _ _ h => h) ?_
    rw [el] at ha ⊢
    exact pe_methD he (by rw [C.c.K]; exact c1) (by rw [C.c.K]; exact c2) ((C.fn f h2).congrK C.c.K) (C.room.mono h3) (by rw [C.c.K]; exact c3) C.pass ha (hdA_star (hd x List.mem_cons_self)) (hdA_any fun y hy => hd y (List.mem_cons_of_mem _ hy)) (meth_tree h5 hd (by rw [← el, As.emb_len]; exact h6) h7)
end
end DN

set_option Elab.async false
set_option linter.all false
set_option maxRecDepth 100000
set_option maxHeartbeats 4000000
/-! DEN, part 18: every expression is sound (the joining). -/
namespace DN
open PySem PySem.Spec PyProof.Rows L2

section
variable {T : CTab} {G : Prg} {F : Fns} {N : List Str} {nn L : Nat} {sc s2 : Scope} {X : Cx} {W : WN}
theorem s_prop (C : EC T G F N nn L sc s2 X W) {e : E} {m c f : Nat} {p : Pos} (h1 : (c, m, f) ∈ G.pt) (h2 : f < nn) (h3 : G.lv.getD f 0 + 1 ≤ L) (h4 : G.np.getD f 0 = 1) (h5 : attributeBase (e.emb G N) (G.an.getD m "") X.env (eval (e.emb G N) X.env) = eval (e.emb G N) X.env)
    (he : PE X (e.emb G N) (rd T (relV T) W (e.ev G F))) : PE X ((E.prop e m c f p).emb G N) (rd T (relV T) W ((E.prop e m c f p).ev G F)) := by
  obtain ⟨c1, ⟨q, c2⟩, c3⟩ := C.top.prop c m f h1
  have d := (C.fn f h2).congrK C.c.K
  rw [h4] at d
  have np : Passes (L2.CX X.prog X.w) X.nox (fun _ _ _ => False) := fun pins σ H s e s' I c => by
    obtain ⟨_, _, _, _, _, _, _, _, _, _, _, _, z⟩ := c
    exact z.elim
  unfold E.emb
  exact pe_rd (pe_prop he (by rw [C.c.K]; exact c1) (by rw [C.c.K]; exact c2) d (C.room.mono h3) (by rw [C.c.K]; exact c3) .nil np h5) fun σ H Q h => rd_prop (e := e) (rd_congr (fun env => by (conv => lhs; unfold E.ev) <;> rfl) h)
/-- the tests of a comprehension -/
theorem t_one {t : Tt} {σ : St} {H : Hp} {Q : Bool → Hp → Prop} (h : rd T relB W ((Ts.cons t .nil).evAll G F) σ H Q) : rd T relB W (t.ev G F) σ H Q := by
  refine rd_congr (fun env => ?_) h
  unfold Ts.evAll
  cases t.ev G F env with
  | ok b env => cases b <;> rfl
  | exc c env => rfl
  | bad => rfl
theorem t_any1 {t : Tt} {σ : St} {H : Hp} {Q : Bool → Hp → Prop} (h : rd T relB W ((Ts.cons t .nil).evAny G F) σ H Q) : rd T relB W (t.ev G F) σ H Q := by
  refine rd_congr (fun env => ?_) h
  unfold Ts.evAny
  cases t.ev G F env with
  | ok b env => cases b <;> rfl
  | exc c env => rfl
  | bad => rfl
theorem rdB_ok {b : Bool} {σ : St} {H : Hp} {Q : Bool → Hp → Prop} (h : rd T relB W (fun env => .ok b env) σ H Q) : Q b H := by
  obtain ⟨Hf, env, O, S, p⟩ := h
  exact p b H Hf O [] S ⟨rfl, rfl⟩ (nd0 S.nd) (fun _ h => nomatch h) (nx0 (Nxt.refl _ _ _))
theorem t_and {t : Tt} {ts : Ts} {σ : St} {H : Hp} {Q : Bool → Hp → Prop} (h : rd T relB W ((Ts.cons t ts).evAll G F) σ H Q) : tAnd (rd T relB W (t.ev G F)) (rd T relB W (ts.evAll G F)) σ H Q := by
  have z := rd_then (T := T) (mb := fun env => .ok false env) (rd_congr (fun env => by (conv => lhs; unfold Ts.evAll) <;> rfl) h)
  obtain ⟨Hf, env, O, S, z⟩ := z
  refine ⟨Hf, env, O, S, Post.mono z fun c H1 q => ?_⟩
  cases c with
  | true => rw [if_pos rfl] at q ⊢; exact q
  | false => rw [if_neg Bool.false_ne_true] at q ⊢; exact rdB_ok q
theorem t_or {t : Tt} {ts : Ts} {σ : St} {H : Hp} {Q : Bool → Hp → Prop} (h : rd T relB W ((Ts.cons t ts).evAny G F) σ H Q) : tOr (rd T relB W (t.ev G F)) (rd T relB W (ts.evAny G F)) σ H Q := by
  have z := rd_then (T := T) (ma := fun env => .ok true env) (rd_congr (fun env => by (conv => lhs; unfold Ts.evAny) <;> rfl) h)
  obtain ⟨Hf, env, O, S, z⟩ := z
  refine ⟨Hf, env, O, S, Post.mono z fun c H1 q => ?_⟩
  cases c with
  | true => rw [if_pos rfl] at q ⊢; exact rdB_ok q
  | false => rw [if_neg Bool.false_ne_true] at q ⊢; exact q
theorem t_not {t : Tt} {p : Pos} {σ : St} {H : Hp} {Q : Bool → Hp → Prop} (h : rd T relB W ((Tt.not t p).ev G F) σ H Q) : tNot (rd T relB W (t.ev G F)) σ H Q := by
  obtain ⟨Hf, env, O, S, z⟩ := h
  unfold Tt.ev at z
  refine ⟨Hf, env, O, S, ?_⟩
  cases e : t.ev G F env with
  | ok b env2 =>
    rw [e] at z
    intro v H' Hf' O' Ox S' r nd d n
    obtain ⟨r1, r2⟩ := r
    subst r1
    exact z _ H' Hf' O' Ox S' ⟨rfl, r2⟩ nd d n
  | exc c env2 => rw [e] at z; exact z
  | bad => rw [e] at z; exact z
theorem s_lc (C : EC T G F N nn L sc s2 X W) {e : E} {tg : Tg} {it : It} {t : Ts} {scope : Scope} {own : List (Str × Nat)} {p : Pos} (ok : blkB N sc scope own = true) (hw : tg.wf N scope = true) (hv : tg.vars.all (own.map (·.2)).contains = true) (nn' : (own.map (·.2)).Nodup)
    (hi : PI X (tg.emb N) (it.emb G N) (rd T (relI T) W (it.ev G F))) (hd : hdA (it.emb G N) = true)
    (he : ∀ (X' : Cx), EC T G F N nn L (relS scope sc) scope X' WF → PE X' (e.emb G N) (rd T (relV T) WF (e.ev G F))) (ht : ∀ (X' : Cx), EC T G F N nn L (relS scope sc) scope X' WF → PTs X' (t.emb G N) (rd T relB WF (t.evAll G F))) :
    PE X ((E.lc e tg it t scope own p).emb G N) (rd T (relV T) W ((E.lc e tg it t scope own p).ev G F)) := by
  unfold E.emb
  have K : ∀ (s : Shared) (H : Hp) (D : Addr) (cl : List (Str × Addr)) (fp : List Addr), EC T G F N nn L (relS scope sc) scope (X.blk s H scope (compEnvC scope cl D X.env) fp) WF := fun s H D cl fp => C.blk s H D cl fp
  refine pe_rd (pe_lc (g := gTg X.K tg) C.c.calm (by rw [C.c.eN]; exact C.c.nd) hi (by rw [C.c.eN, C.c.sc]; exact blkB_ok ok) (fun s H D cl fp => ?_) (fun s H D cl fp => ht _ (K s H D cl fp)) (fun s H D cl fp => he _ (K s H D cl fp)) (hdA_fold hd)) fun σ H Q h => ?_
  · exact pg_tg (K s H D cl fp).c (K s H D cl fp).so tg hw
  · exact rd_lc (mi := it.ev G F) nn' (fun i hi => by simpa using List.all_eq_true.mp hv i hi) (rd_congr (fun env => by (conv => lhs; unfold E.ev) <;> rfl) h)
theorem It.hd (it : It) : hdA (it.emb G N) = true := by
  cases it with
  | e x => unfold It.emb; exact x.hd G N
  | _ => unfold It.emb; rfl
theorem wfs {a b : Bool} (h : (a && b) = true) : a = true ∧ b = true := by
  rw [Bool.and_eq_true] at h; exact h
theorem tyN {P : Prop} [Decidable P] (h : decide P = true) : P := of_decide_eq_true h

mutual
theorem E.sound : ∀ (e : E) {sc s2 : Scope} {X : Cx} {W : WN}, EC T G F N nn L sc s2 X W → e.wf G N nn L sc s2 = true → PE X (e.emb G N) (rd T (relV T) W (e.ev G F))
  | .q a, _, _, _, _, C, w => by
    unfold E.wf at w
    unfold E.emb
    exact pe_rd (Qe.sound C.c a w) fun σ H Q h => rd_quiet (rd_congr (fun env => by (conv => lhs; unfold E.ev) <;> rfl) h)
  | .mv i p, _, _, _, _, C, w => by
    unfold E.wf at w
    unfold E.emb
    exact pe_mv C.c w p
  | .fz i p, _, _, _, _, C, w => by
    unfold E.wf at w
    unfold E.emb
    exact pe_fz C.c w p
  | .bin o a b p, _, _, _, _, C, w => by
    unfold E.wf at w
    exact s_bin C (B.sound a C (wfs (wfs w).1).1) (B.sound b C (wfs (wfs w).1).2) (wfs w).2
  | .cmp o a b p, _, _, _, _, C, w => by
    unfold E.wf at w
    exact s_cmp C (B.sound a C (wfs (wfs w).1).1) (B.sound b C (wfs (wfs w).1).2) (wfs w).2
  | .and e es p, _, _, _, _, C, w => by
    unfold E.wf at w
    unfold E.emb
    exact pe_rd (Es.sAnd es C (wfs w).2 (E.sound e C (wfs w).1)) fun σ H Q h => rd_congr (fun env => by (conv => lhs; unfold E.ev) <;> rfl) h
  | .or e es p, _, _, _, _, C, w => by
    unfold E.wf at w
    unfold E.emb
    exact pe_rd (Es.sOr es C (wfs w).2 (E.sound e C (wfs w).1)) fun σ H Q h => rd_congr (fun env => by (conv => lhs; unfold E.ev) <;> rfl) h
  | .not a p, _, _, _, _, C, w => by
    unfold E.wf at w
    unfold E.emb
    exact pe_rd (pe_not (E.sound a C w)) fun σ H Q h => rd_not (rd_congr (fun env => by (conv => lhs; unfold E.ev) <;> rfl) h)
  | .ife t a b p, _, _, _, _, C, w => by
    unfold E.wf at w
    unfold E.emb
    exact pe_rd (pe_ifExp (Tt.sound t C (wfs (wfs w).1).1) (E.sound a C (wfs (wfs w).1).2) (E.sound b C (wfs w).2)) fun σ H Q h => rd_ife (rd_congr (fun env => by (conv => lhs; unfold E.ev) <;> rfl) h)
  | .f1 f a pn p, _, _, _, _, C, w => by
    unfold E.wf at w
    exact s_f1 C (wfs w).1 (B.sound a C (wfs w).2)
  | .f2 f a b pn p, _, _, _, _, C, w => by
    unfold E.wf at w
    exact s_f2 C (wfs (wfs w).1).1 (E.sound a C (wfs (wfs w).1).2) (E.sound b C (wfs w).2)
  | .isi a c pn pc p, _, _, _, _, C, w => by
    unfold E.wf at w
    exact s_isi C (wfs (wfs (wfs w).1).1).1 (wfs (wfs (wfs w).1).1).2 (wfs (wfs w).1).2 (wfs w).2
  | .isi2 a c d k pn pc pd pt p, _, _, _, _, C, w => by
    unfold E.wf at w
    simp only [Bool.and_eq_true] at w
    obtain ⟨⟨⟨⟨⟨w1, w2⟩, w3⟩, w4⟩, w5⟩, w6⟩ := w
    exact s_isi2 C w1 w2 w3 w4 w5 w6
  | .isiO a c pn pc p, _, _, _, _, C, w => by
    unfold E.wf at w
    cases w
  | .tup es k p, _, _, _, _, C, w => by
    unfold E.wf at w
    unfold E.emb
    exact pe_rd (pe_tup (Es.sound es C w)) fun σ H Q h => rd_tup (rd_congr (fun env => by (conv => lhs; unfold E.ev) <;> rfl) h)
  | .lst es p, _, _, _, _, C, w => by
    unfold E.wf at w
    unfold E.emb
    exact pe_rd (pe_lst (Es.sound es C w)) fun σ H Q h => rd_lst (rd_congr (fun env => by (conv => lhs; unfold E.ev) <;> rfl) h)
  | .ixE e k p, _, _, _, _, C, w => by
    unfold E.wf at w
    unfold E.emb
    exact pe_rd (pe_ix ix_seq (E.sound e C (wfs w).1) (E.sound k C (wfs w).2) (hdA_ix (k.hd G N))) fun σ H Q h => rd_ixE (rd_congr (fun env => by (conv => lhs; unfold E.ev) <;> rfl) h)
  | .call f as pn p, _, _, _, _, C, w => by
    unfold E.wf at w
    simp only [Bool.and_eq_true] at w
    obtain ⟨⟨⟨⟨⟨⟨w1, w2⟩, w3⟩, w4⟩, w5⟩, w6⟩, w7⟩ := w
    exact s_call C (tyN w1) w2 w3 (by simpa using w5) (tyN w6) (tyN w7) (As.sound as C w4)
  | .make m as kas kn pn p, _, _, _, _, C, w => by
    unfold E.wf at w
    simp only [Bool.and_eq_true] at w
    obtain ⟨⟨⟨⟨⟨⟨⟨⟨⟨⟨w1, w2⟩, w3⟩, w4⟩, w5⟩, w6⟩, w7⟩, w8⟩, w9⟩, w10⟩, w11⟩ := w
    have l : kas.len = kn.length := by simpa using w9
    exact s_make C (tyN w1) (tyN w2) w3 (by simpa using w6) (tyN w7) (by simpa using w8) l (tyN w10) (by simpa using w11) (As.sound as C w4) (As.soundK kas C kn l w5)
  | .methE e m c f as pa p, _, _, _, _, C, w => by
    unfold E.wf at w
    simp only [Bool.and_eq_true] at w
    obtain ⟨⟨⟨⟨⟨⟨⟨⟨w1, w2⟩, w3⟩, w4⟩, w5⟩, w6⟩, w7⟩, w8⟩, w9⟩ := w
    exact s_methE C (by simpa using w3) (tyN w4) (tyN w5) (by simpa using w6) (attr_base (e.nocall G N (by cases e <;> first | rfl | exact w9))) (tyN w1) w2 (E.sound e C w7) (As.sound as C w8)
  | .prop e m c f p, _, _, _, _, C, w => by
    unfold E.wf at w
    simp only [Bool.and_eq_true] at w
    obtain ⟨⟨⟨⟨⟨w1, w2⟩, w3⟩, w4⟩, w5⟩, w6⟩ := w
    exact s_prop C (by simpa using w1) (tyN w2) (tyN w3) (by simpa using w4) (attr_base (e.nocall G N (by cases e <;> first | rfl | exact w6))) (E.sound e C w5)
  | .pop b pa p, _, _, _, _, C, w => by
    unfold E.wf at w
    exact s_pop C (wfs w).1 (wfs w).2
  | .lc e tg it t scope own p, _, _, _, _, C, w => by
    unfold E.wf at w
    simp only [Bool.and_eq_true] at w
    obtain ⟨⟨⟨⟨⟨⟨⟨w1, w2⟩, w3⟩, w4⟩, w5⟩, w6⟩, w7⟩, w8⟩ := w
    exact s_lc C w2 w3 w4 (tyN w5) (It.sound it C tg w1) it.hd (fun X' C' => E.sound e C' w6) (fun X' C' => Ts.soundL t C' w7 w8)
theorem B.sound : ∀ (b : B) {sc s2 : Scope} {X : Cx} {W : WN}, EC T G F N nn L sc s2 X W → b.wf G N nn L sc s2 = true → BS T G F N sc X W b
  | .e x, _, _, _, _, C, w => by
    unfold B.wf at w
    exact ⟨E.sound x C w, fun k hk => by subst hk; unfold E.wf at w; exact w⟩
  | .p b, _, _, _, _, C, w => by
    unfold B.wf at w
    exact w
theorem Es.sound : ∀ (es : Es) {sc s2 : Scope} {X : Cx} {W : WN}, EC T G F N nn L sc s2 X W → es.wf G N nn L sc s2 = true → PA X (es.emb G N) (rd T (relVs T) W (es.ev G F))
  | .nil, _, _, _, _, C, w => by
    unfold Es.emb
    exact PA.imp pa_nil fun σ H Q h => rdEs_nil (rd_congr (fun env => by (conv => lhs; unfold Es.ev) <;> rfl) h)
  | .cons x es, _, _, _, _, C, w => by
    unfold Es.wf at w
    unfold Es.emb
    exact PA.imp (pa_cons (E.sound x C (wfs w).1) (Es.sound es C (wfs w).2) (hdA_star (x.hd G N))) fun σ H Q h => rdEs_cons (rd_congr (fun env => by (conv => lhs; unfold Es.ev) <;> rfl) h)
theorem Es.sAnd : ∀ (es : Es) {sc s2 : Scope} {X : Cx} {W : WN}, EC T G F N nn L sc s2 X W → es.wf G N nn L sc s2 = true → ∀ {a : Expr} {ma : DEnv → R PV} {p : Pos}, PE X a (rd T (relV T) W ma) →
    PE X (.BoolOp .And (a :: es.emb G N) p) (rd T (relV T) W fun env => (ma env).bind fun x env => es.evAnd G F x env)
  | .nil, _, _, _, _, C, w, _, ma, _, ha => by
    unfold Es.emb
    exact pe_rd (pe_one ha) fun σ H Q h => rd_congr (fun env => by
      have e : (fun (x : PV) (env : DEnv) => Es.nil.evAnd G F x env) = fun x env => .ok x env := by
        funext x env; unfold Es.evAnd; rfl
      rw [e, bind_ok]) h
  | .cons x es, _, _, _, _, C, w, _, ma, p, ha => by
    unfold Es.wf at w
    have z := Es.sAnd es C (wfs w).2 (p := p) (E.sound x C (wfs w).1)
    unfold Es.emb
    exact pe_rd (pe_and ha z) fun σ H Q h => rd_and (rd_congr (fun env => by
      have e : (fun (y : PV) (env : DEnv) => (Es.cons x es).evAnd G F y env) = fun y env => match y with
          | .bl true => (x.ev G F env).bind fun y env => es.evAnd G F y env
          | .bl false => .ok (.bl false) env
          | _ => .bad := by
        funext y env; (conv => lhs; unfold Es.evAnd) <;> rfl
      first | (rw [e]; done) | (rw [e]; rfl)) h)
theorem Es.sOr : ∀ (es : Es) {sc s2 : Scope} {X : Cx} {W : WN}, EC T G F N nn L sc s2 X W → es.wf G N nn L sc s2 = true → ∀ {a : Expr} {ma : DEnv → R PV} {p : Pos}, PE X a (rd T (relV T) W ma) →
    PE X (.BoolOp .Or (a :: es.emb G N) p) (rd T (relV T) W fun env => (ma env).bind fun x env => es.evOr G F x env)
  | .nil, _, _, _, _, C, w, _, ma, _, ha => by
    unfold Es.emb
    exact pe_rd (pe_one ha) fun σ H Q h => rd_congr (fun env => by
      have e : (fun (x : PV) (env : DEnv) => Es.nil.evOr G F x env) = fun x env => .ok x env := by
        funext x env; unfold Es.evOr; rfl
      rw [e, bind_ok]) h
  | .cons x es, _, _, _, _, C, w, _, ma, p, ha => by
    unfold Es.wf at w
    have z := Es.sOr es C (wfs w).2 (p := p) (E.sound x C (wfs w).1)
    unfold Es.emb
    exact pe_rd (pe_or ha z) fun σ H Q h => rd_or (rd_congr (fun env => by
      have e : (fun (y : PV) (env : DEnv) => (Es.cons x es).evOr G F y env) = fun y env => match y with
          | .bl true => .ok (.bl true) env
          | .bl false => (x.ev G F env).bind fun y env => es.evOr G F y env
          | _ => .bad := by
        funext y env; (conv => lhs; unfold Es.evOr) <;> rfl
      first | (rw [e]; done) | (rw [e]; rfl)) h)
theorem As.sound : ∀ (as : As) {sc s2 : Scope} {X : Cx} {W : WN}, EC T G F N nn L sc s2 X W → as.wf G N nn L sc s2 = true → PA X (as.emb G N) (rd T (relA T as) W (as.ev G F))
  | .nil, _, _, _, _, C, w => by
    unfold As.emb
    exact PA.imp pa_nil fun σ H Q h => rdAs_nil (rd_congr (fun env => by (conv => lhs; unfold As.ev) <;> rfl) h)
  | .mv i p as, _, _, _, _, C, w => by
    unfold As.wf at w
    unfold As.emb
    exact PA.imp (pa_cons (nameAt_var C.c (wfs w).1 p) (As.sound as C (wfs w).2) rfl) fun σ H Q h => rdAs_mv (rd_congr (fun env => by (conv => lhs; unfold As.ev) <;> rfl) h)
  | .e fz x as, _, _, _, _, C, w => by
    unfold As.wf at w
    unfold As.emb
    exact PA.imp (pa_cons (E.sound x C (wfs w).1) (As.sound as C (wfs w).2) (hdA_star (x.hd G N))) fun σ H Q h => rdAs_e (rd_congr (fun env => by (conv => lhs; unfold As.ev) <;> rfl) h)
theorem As.soundK : ∀ (as : As) {sc s2 : Scope} {X : Cx} {W : WN}, EC T G F N nn L sc s2 X W → ∀ (kn : List (Nat × Pos)), as.len = kn.length → as.wf G N nn L sc s2 = true → PK X (zipKw G kn (as.emb G N)) (rd T (relA T as) W (as.ev G F))
  | .nil, _, _, _, _, C, kn, l, w => by
    have e : zipKw G kn (As.nil.emb G N) = [] := by unfold As.emb; cases kn <;> rfl
    rw [e]
    exact PK.imp pk_nil fun σ H Q h => rdAs_nil (rd_congr (fun env => by (conv => lhs; unfold As.ev) <;> rfl) h)
  | .mv i p as, _, _, _, _, C, kn, l, w => by
    unfold As.wf at w
    cases kn with
    | nil => cases l
    | cons k kn =>
      unfold As.emb
      exact PK.imp (pk_cons (nameAt_var C.c (wfs w).1 p) (As.soundK as C kn (by simpa [As.len] using l) (wfs w).2)) fun σ H Q h => rdAs_mv (rd_congr (fun env => by (conv => lhs; unfold As.ev) <;> rfl) h)
  | .e fz x as, _, _, _, _, C, kn, l, w => by
    unfold As.wf at w
    cases kn with
    | nil => cases l
    | cons k kn =>
      unfold As.emb
      exact PK.imp (pk_cons (E.sound x C (wfs w).1) (As.soundK as C kn (by simpa [As.len] using l) (wfs w).2)) fun σ H Q h => rdAs_e (rd_congr (fun env => by (conv => lhs; unfold As.ev) <;> rfl) h)
theorem Tt.sound : ∀ (t : Tt) {sc s2 : Scope} {X : Cx} {W : WN}, EC T G F N nn L sc s2 X W → t.wf G N nn L sc s2 = true → PT X (t.emb G N) (rd T relB W (t.ev G F))
  | .v b, _, _, _, _, C, w => by
    unfold Tt.wf at w
    obtain ⟨ta, pa, _, k⟩ := one_sound C (B.sound b C (wfs w).1)
    unfold Tt.emb
    exact PT.imp (pt_truth pa (truHd_is (b.tru G N (wfs w).2))) fun σ H Q h => k σ H Q (rd_congr (fun env => by (conv => lhs; unfold Tt.ev) <;> rfl) h)
  | .cmp o a b p, _, _, _, _, C, w => by
    unfold Tt.wf at w
    exact s_tcmp C (B.sound a C (wfs (wfs w).1).1) (B.sound b C (wfs (wfs w).1).2) (wfs w).2
  | .not t p, _, _, _, _, C, w => by
    unfold Tt.wf at w
    unfold Tt.emb
    exact PT.imp (pt_not (Tt.sound t C w)) fun σ H Q h => t_not h
  | .and ts p, _, _, _, _, C, w => by
    unfold Tt.wf at w
    unfold Tt.emb
    exact PT.imp (Ts.sAll ts C (wfs w).1 (wfs w).2).pt fun σ H Q h => rd_congr (fun env => by (conv => lhs; unfold Tt.ev) <;> rfl) h
  | .or ts p, _, _, _, _, C, w => by
    unfold Tt.wf at w
    unfold Tt.emb
    exact PT.imp (Ts.sAny ts C (wfs w).1 (wfs w).2).pt fun σ H Q h => rd_congr (fun env => by (conv => lhs; unfold Tt.ev) <;> rfl) h
theorem Ts.sAll : ∀ (ts : Ts) {sc s2 : Scope} {X : Cx} {W : WN}, EC T G F N nn L sc s2 X W → ts.wf G N nn L sc s2 = true → ts.some = true → ∀ {p : Pos}, PW X (.BoolOp .And (ts.emb G N) p) (rd T relB W (ts.evAll G F))
  | .nil, _, _, _, _, C, w, s, _ => by unfold Ts.some at s; cases s
  | .cons t ts, _, _, _, _, C, w, _, p => by
    unfold Ts.wf at w
    have h1 := Tt.sound t C (wfs w).1
    have h2 := Ts.sAll ts C (wfs w).2
    cases ts with
    | nil =>
      unfold Ts.emb Ts.emb
      exact PW.imp (pw_and1 h1) fun σ H Q h => t_one h
    | cons t2 ts2 =>
      have h3 := h2 rfl (p := p)
      unfold Ts.emb
      unfold Ts.emb at h3 ⊢
      exact PW.imp (pw_and h1 h3) fun σ H Q h => t_and h
theorem Ts.sAny : ∀ (ts : Ts) {sc s2 : Scope} {X : Cx} {W : WN}, EC T G F N nn L sc s2 X W → ts.wf G N nn L sc s2 = true → ts.some = true → ∀ {p : Pos}, PW X (.BoolOp .Or (ts.emb G N) p) (rd T relB W (ts.evAny G F))
  | .nil, _, _, _, _, C, w, s, _ => by unfold Ts.some at s; cases s
  | .cons t ts, _, _, _, _, C, w, _, p => by
    unfold Ts.wf at w
    have h1 := Tt.sound t C (wfs w).1
    have h2 := Ts.sAny ts C (wfs w).2
    cases ts with
    | nil =>
      unfold Ts.emb Ts.emb
      exact PW.imp (pw_or1 h1) fun σ H Q h => t_any1 h
    | cons t2 ts2 =>
      have h3 := h2 rfl (p := p)
      unfold Ts.emb
      unfold Ts.emb at h3 ⊢
      exact PW.imp (pw_or h1 h3) fun σ H Q h => t_or h
theorem Ts.soundL : ∀ (ts : Ts) {sc s2 : Scope} {X : Cx} {W : WN}, EC T G F N nn L sc s2 X W → ts.wf G N nn L sc s2 = true → ts.few = true → PTs X (ts.emb G N) (rd T relB W (ts.evAll G F))
  | .nil, _, _, _, _, C, w, _ => by
    unfold Ts.emb
    exact PTs.imp pts_nil fun σ H Q h => rdB_ok (b := true) (rd_congr (fun env => by (conv => lhs; unfold Ts.evAll) <;> rfl) h)
  | .cons t ts, _, _, _, _, C, w, f => by
    unfold Ts.wf at w
    have h1 := Tt.sound t C (wfs w).1
    cases ts with
    | nil =>
      unfold Ts.emb Ts.emb
      exact PTs.imp (pts_one h1) fun σ H Q h => t_one h
    | cons t2 ts2 => unfold Ts.few at f; cases f
theorem It.sound : ∀ (it : It) {sc s2 : Scope} {X : Cx} {W : WN}, EC T G F N nn L sc s2 X W → ∀ (tg : Tg), it.wf G N nn L sc s2 tg.isTup = true → PI X (tg.emb N) (it.emb G N) (rd T (relI T) W (it.ev G F))
  | .e x, _, _, _, _, C, tg, w => by
    unfold It.wf at w
    unfold It.emb
    exact PI.imp (pi_seq (E.sound x C w)) fun σ H Q h => rdI_e (rd_congr (fun env => by (conv => lhs; unfold It.ev) <;> rfl) h)
  | .r1 a pn p, _, _, _, _, C, tg, w => by
    unfold It.wf at w
    unfold It.emb
    exact PI.imp (pi_range1 (C.gl (wfs w).1) (C.c.top.bi _ (by decide)) (pa_cons (E.sound a C (wfs w).2) pa_nil (hdA_star (a.hd G N))) (hdA_star (a.hd G N))) fun σ H Q h => rdI_r1 (rd_congr (fun env => by (conv => lhs; unfold It.ev) <;> rfl) h)
  | .r2 a b pn p, _, _, _, _, C, tg, w => by
    unfold It.wf at w
    have wa := (wfs (wfs w).1).2
    have hb := hdA_star (es := []) (env := ‹Cx›.env) (b.hd G N)
    unfold It.emb
    exact PI.imp (pi_range2 (C.gl (wfs (wfs w).1).1) (C.c.top.bi _ (by decide)) (pa_cons (E.sound a C wa) (pa_cons (E.sound b C (wfs w).2) pa_nil hb) (hdA_star (a.hd G N))) (by rw [hdA_star (a.hd G N), hdA_star (b.hd G N)]; rfl) hb) fun σ H Q h => rdI_r2 (rd_congr (fun env => by (conv => lhs; unfold It.ev) <;> rfl) h)
  | .r3 a b c pn p, _, _, _, _, C, tg, w => by
    unfold It.wf at w
    simp only [Bool.and_eq_true] at w
    obtain ⟨⟨⟨w1, w2⟩, w3⟩, w4⟩ := w
    unfold It.emb
    exact PI.imp (pi_range3 (C.gl w1) (C.c.top.bi _ (by decide)) (pa_cons (E.sound a C w2) (pa_cons (E.sound b C w3) (pa_cons (E.sound c C w4) pa_nil (hdA_star (c.hd G N))) (hdA_star (b.hd G N))) (hdA_star (a.hd G N))) (hdA_star (a.hd G N)) (hdA_any fun y hy => by
      rcases List.mem_cons.mp hy with z | z
      · rw [z]; exact b.hd G N
      · rcases List.mem_cons.mp z with z | z
        · rw [z]; exact c.hd G N
        · cases z)) fun σ H Q h => rdI_r3 (rd_congr (fun env => by (conv => lhs; unfold It.ev) <;> rfl) h)
  | .enum x pn p, _, _, _, _, C, tg, w => by
    unfold It.wf at w
    have wt := (wfs w).2
    cases tg with
    | one i q => cases wt
    | tup is k q =>
      unfold It.emb
      exact PI.imp (pi_enumS (C.gl (wfs (wfs w).1).1) (C.c.top.bi _ (by decide)) (pa_cons (E.sound x C (wfs (wfs w).1).2) pa_nil (hdA_star (x.hd G N))) (hdA_star (x.hd G N))) fun σ H Q h => rdI_enum (rd_congr (fun env => by (conv => lhs; unfold It.ev) <;> rfl) h)
end
end
end DN

set_option Elab.async false
set_option linter.all false
set_option maxRecDepth 100000
set_option maxHeartbeats 4000000
/-! DEN, part 19: statements: syntax, embedding, what they compute, what is checked. -/
namespace DN
open PySem PySem.Spec PyProof.Rows L2

/-- an item of what an except suite stores -/
inductive Sa where
  | bl (b : Bool) (j : Nat) (p : Pos)
  | int (n : Int) (j : Nat) (p : Pos)
  | str (x : Str) (j : Nat) (p : Pos)
  | non (j : Nat) (p : Pos)
  | isE (c : Nat) (pn pe pc p : Pos)
/-- an except suite's statements (i: the exception's name) -/
inductive Su where
  | lst (j : Nat) (xs : List Sa) (pl pt p : Pos)
  | one (j : Nat) (x : Sa) (pt p : Pos)
mutual
inductive S where
  | set (i : Nat) (frz : Bool) (e : E) (pt p : Pos)
  | setT (is : List (Nat × Pos)) (k : Nat) (e : E) (pt p : Pos)
  | setIx (b : P) (k : Qe) (e : E) (pt p : Pos)
  | aug (i : Nat) (o : Operator) (e : E) (pt p : Pos)
  | setFld (b : P) (f : Nat) (e : E) (pt p : Pos)
  | appV (i : Nat) (e : E) (pi pa pc p : Pos)
  | appQ (b : P) (k : Qe) (pa pc p : Pos)
  | appT (b : P) (k1 k2 : Qe) (n : Nat) (pt pa pc p : Pos)
  | rev (b : P) (pa pc p : Pos)
  | expr (e : E) (p : Pos)
  | ite (t : Tt) (a b : Ss) (p : Pos)
  | forS (tg : Tg) (it : It) (b : Ss) (p : Pos)
  | whileS (t : Tt) (b : Ss) (p : Pos)
  | ret (e : E) (p : Pos)
  | retN (p : Pos)
  | raise (c : Nat) (m : Str) (j : Nat) (pn pm pc p : Pos)
  | tryA (b : Ss) (c i : Nat) (su0 : Su) (su : List Su) (np ph p : Pos)
  | brk (p : Pos)
  | cont (p : Pos)
  | pass (p : Pos)
inductive Ss where
  | nil
  | cons (s : S) (ss : Ss)
end
def Sa.emb (G : Prg) (N : List Str) (i : Nat) : Sa → Expr
  | .bl b j p => .Constant (.bool b) j p
  | .int n j p => .Constant (.int n) j p
  | .str x j p => .Constant (.str x) j p
  | .non j p => .Constant .none j p
  | .isE c pn pe pc p => .Call (.Name "isinstance" pn) [.Name (N.getD i "") pe, .Name (G.cn.getD c "") pc] [] p
def Su.emb (G : Prg) (N : List Str) (i : Nat) : Su → Stmt
  | .lst j xs pl pt p => .Assign [.Name (N.getD j "") pt] (.List (xs.map fun x => x.emb G N i) pl) p
  | .one j x pt p => .Assign [.Name (N.getD j "") pt] (x.emb G N i) p
mutual
def S.emb (G : Prg) (N : List Str) : S → Stmt
  | .set i _ e pt p => .Assign [.Name (N.getD i "") pt] (e.emb G N) p
  | .setT is k e pt p => .Assign [.Tuple (is.map fun x => .Name (N.getD x.1 "") x.2) k pt] (e.emb G N) p
  | .setIx b k e pt p => .Assign [.Subscript (b.emb G N) (k.emb G N) pt] (e.emb G N) p
  | .aug i o e pt p => .AugAssign (.Name (N.getD i "") pt) o (e.emb G N) p
  | .setFld b f e pt p => .Assign [.Attribute (b.emb G N) (G.an.getD f "") pt] (e.emb G N) p
  | .appV i e pi pa pc p => .Expr (.Call (.Attribute (.Name (N.getD i "") pi) "append" pa) [e.emb G N] [] pc) p
  | .appQ b k pa pc p => .Expr (.Call (.Attribute (b.emb G N) "append" pa) [k.emb G N] [] pc) p
  | .appT b k1 k2 n pt pa pc p => .Expr (.Call (.Attribute (b.emb G N) "append" pa) [.Tuple [k1.emb G N, k2.emb G N] n pt] [] pc) p
  | .rev b pa pc p => .Expr (.Call (.Attribute (b.emb G N) "reverse" pa) [] [] pc) p
  | .expr e p => .Expr (e.emb G N) p
  | .ite t a b p => .If (t.emb G N) (a.emb G N) (b.emb G N) p
  | .forS tg it b p => .For (tg.emb N) (it.emb G N) (b.emb G N) [] p
  | .whileS t b p => .While (t.emb G N) (b.emb G N) [] p
  | .ret e p => .Return (some (e.emb G N)) p
  | .retN p => .Return none p
  | .raise c m j pn pm pc p => .Raise (some (.Call (.Name (G.cn.getD c "") pn) [.Constant (.str m) j pm] [] pc)) none p
  | .tryA b c i su0 su np ph p => .Try (b.emb G N) [.ExceptHandler (some (.Name (G.cn.getD c "") np)) (some (N.getD i "")) (su0.emb G N i :: su.map fun s => s.emb G N i) ph] [] [] p
  | .brk p => .Break p
  | .cont p => .Continue p
  | .pass p => .Pass p
def Ss.emb (G : Prg) (N : List Str) : Ss → List Stmt
  | .nil => []
  | .cons s ss => s.emb G N :: ss.emb G N
end

/-! ### what they compute -/
inductive RS where
  | nx (env : DEnv)
  | bk (env : DEnv)
  | ct (env : DEnv)
  | rt (v : PV) (env : DEnv)
  | exc (c : Nat) (env : DEnv)
  | bad
def R.toS {α : Type} (r : R α) (f : α → DEnv → RS) : RS := match r with
  | .ok a env => f a env
  | .exc c env => .exc c env
  | .bad => .bad
def RS.seq (r : RS) (f : DEnv → RS) : RS := match r with
  | .nx env => f env
  | r => r
/-- is exception class c one that the clause for d takes -/
def subOf (G : Prg) (c d : Nat) : Option Bool := (G.sub[c]?).bind fun l => l[d]?
def Sa.ev (G : Prg) (c : Nat) : Sa → Option PV
  | .bl b _ _ => some (.bl b)
  | .int n _ _ => some (.int n)
  | .str x _ _ => some (.str x)
  | .non _ _ => some .non
  | .isE d _ _ _ _ => (subOf G c d).map .bl
def Sa.evs (G : Prg) (c : Nat) : List Sa → Option (List PV)
  | [] => some []
  | x :: xs => match x.ev G c, Sa.evs G c xs with
    | some v, some vs => some (v :: vs)
    | _, _ => none
def Su.ev (G : Prg) (c : Nat) (env : DEnv) : Su → RS
  | .lst j xs _ _ _ => match Sa.evs G c xs with
    | some vs => .nx (env.set j (some (.lst true vs)))
    | none => .bad
  | .one j x _ _ => match x.ev G c with
    | some v => .nx (env.set j (some v))
    | none => .bad
def Su.evs (G : Prg) (c : Nat) : List Su → DEnv → RS
  | [], env => .nx env
  | s :: ss, env => (s.ev G c env).seq fun env => Su.evs G c ss env
/-- a for loop's turns -/
def forRun (tg : PV → DEnv → Option DEnv) (body : DEnv → RS) : List PV → DEnv → RS
  | [], env => .nx env
  | x :: xs, env => match tg x env with
    | none => .bad
    | some env1 => match body env1 with
      | .nx env2 => forRun tg body xs env2
      | .ct env2 => forRun tg body xs env2
      | .bk env2 => .nx env2
      | r => r
/-- a while loop's turns, at most so many -/
def whileRun (tt : DEnv → R Bool) (body : DEnv → RS) : Nat → DEnv → RS
  | 0, _ => .bad
  | n + 1, env => match tt env with
    | .ok true env1 => match body env1 with
      | .nx env2 => whileRun tt body n env2
      | .ct env2 => whileRun tt body n env2
      | .bk env2 => .nx env2
      | r => r
    | .ok false env1 => .nx env1
    | .exc c env1 => .exc c env1
    | .bad => .bad
/-- a field's value goes in: known fields are set, the next one is appended -/
def putFld (xs : List PV) (j : Nat) (v : PV) : Option (List PV) :=
  if j < xs.length then some (xs.set j v) else if j = xs.length then some (xs ++ [v]) else none
mutual
def S.ev (G : Prg) (F : Fns) (fuel : Nat) : S → DEnv → RS
  | .set i frz e _ _, env => (e.ev G F env).toS fun x env => .nx (env.set i (some (if frz then x.frz else x)))
  | .setT is _ e _ _, env => (e.ev G F env).toS fun x env => match x with
    | .tup xs => match setTup is xs env with
      | some env => .nx env
      | none => .bad
    | _ => .bad
  | .setIx b k e _ _, env => (e.ev G F env).toS fun x env => match b.loc G env, k.ev G env with
    | some (i, ks, .lst true xs), some (.int n) => match ixN xs.length n with
      | some j => .nx (setLoc env i ks (.lst true (xs.set j x)))
      | none => .bad
    | _, _ => .bad
  | .aug i o e _ _, env0 => match env0[i]? with
    | some (some (.int a)) => (e.ev G F env0).toS fun y env => match y with
      | .int b => match binP o (.int a) (.int b) with
        | some z => .nx (env.set i (some z))
        | none => .bad
      | _ => .bad
    | _ => .bad
  | .setFld b f e _ _, env => (e.ev G F env).toS fun x env => match b.loc G env with
    | some (i, ks, .ins true c xs) => match fldIx G c f with
      | some j => match putFld xs j x with
        | some ys => .nx (setLoc env i ks (.ins true c ys))
        | none => .bad
      | none => .bad
    | _ => .bad
  | .appV i e _ _ _ _, env => match env[i]? with
    | some (some (.lst true _)) => (e.ev G F env).toS fun x env => match env[i]? with
      | some (some (.lst true xs)) => if decide (xs.length < sizeLine) then .nx (env.set i (some (.lst true (xs ++ [x])))) else .bad
      | _ => .bad
    | _ => .bad
  | .appQ b k _ _ _, env => match b.loc G env, k.ev G env with
    | some (i, ks, .lst true xs), some x => if decide (xs.length < sizeLine) then .nx (setLoc env i ks (.lst true (xs ++ [x]))) else .bad
    | _, _ => .bad
  | .appT b k1 k2 _ _ _ _ _, env => match b.loc G env, k1.ev G env, k2.ev G env with
    | some (i, ks, .lst true xs), some x, some y => if decide (xs.length < sizeLine) then .nx (setLoc env i ks (.lst true (xs ++ [.tup [x, y]]))) else .bad
    | _, _, _ => .bad
  | .rev b _ _ _, env => match b.loc G env with
    | some (i, ks, .lst true xs) => if flatP xs then .nx (setLoc env i ks (.lst true xs.reverse)) else .bad
    | _ => .bad
  | .expr e _, env => (e.ev G F env).toS fun _ env => .nx env
  | .ite t a b _, env => (t.ev G F env).toS fun c env => if c then a.ev G F fuel env else b.ev G F fuel env
  | .forS tg it b _, env => (it.ev G F env).toS fun xs env => forRun (fun x env => tg.put x env) (fun env => b.ev G F fuel env) xs env
  | .whileS t b _, env => whileRun (fun env => t.ev G F env) (fun env => b.ev G F fuel env) fuel env
  | .ret e _, env => (e.ev G F env).toS fun x env => .rt x env
  | .retN _, env => .rt .non env
  | .raise c _ _ _ _ _ _, env => .exc c env
  | .tryA b c i su0 su _ _ _, env => match b.ev G F fuel env with
    | .exc d env1 => match subOf G d c with
      | some true => if decide (i < env1.length) then match Su.evs G d (su0 :: su) (env1.set i none) with
          | .nx env2 => .nx (env2.set i none)
          | _ => .bad
        else .bad
      | some false => .exc d env1
      | none => .bad
    | r => r
  | .brk _, env => .bk env
  | .cont _, env => .ct env
  | .pass _, env => .nx env
def Ss.ev (G : Prg) (F : Fns) (fuel : Nat) : Ss → DEnv → RS
  | .nil, env => .nx env
  | .cons s ss, env => (s.ev G F fuel env).seq fun env => ss.ev G F fuel env
end
/-- the parameters at the end, of those that are kept -/
def parL : List Bool → DEnv → DEnv
  | [], _ => []
  | b :: bs, e :: env => (if b then e else none) :: parL bs env
  | b :: bs, [] => none :: parL bs []
/-- a def: its names, the parameters that are never stored (by flags), its body -/
structure Dn where
  N : List Str
  kp : List Bool
  body : Ss
def Dn.run (d : Dn) (G : Prg) (F : Fns) (fuel : Nat) (xs : List PV) : CR :=
  match d.body.ev G F fuel (xs.map some ++ List.replicate (d.N.length - xs.length) none) with
  | .rt v env => .ok v (parL d.kp env)
  | .nx env => .ok .non (parL d.kp env)
  | .exc c env => .exc c (parL d.kp env)
  | _ => .bad
def Fns.ext (F : Fns) (n : Nat) (g : List PV → CR) : Fns := fun f xs => if f = n then g xs else F f xs

/-! ### checks -/
def E.isLc : E → Bool
  | .lc .. => true
  | _ => false
/-- a comprehension goes to a name: is the store part of it -/
def swB (N : List Str) (sc : Scope) (i : Nat) (pt : Pos) : E → Bool
  | .lc _ _ _ _ scope _ p => sc.names.lookup (N.getD i "") == some .local && pt.line == p.line && !(scope.names.any fun (n, k) => n == N.getD i "" && (k == .local || k == .cell))
  | _ => false
def locB (N : List Str) (sc : Scope) (i : Nat) : Bool := match N[i]? with
  | some x => sc.names.lookup x == some .local
  | none => false
section
variable (G : Prg) (N : List Str) (nn L : Nat) (kp : List Bool) (sc : Scope)
/-- slot i may be stored -/
def stK (i : Nat) : Bool := stAt N sc i && !(kp.getD i false)
def excB (c : Nat) : Bool := decide (c < G.sub.length) && glB sc (G.cn.getD c "")
def Sa.wf : Sa → Bool
  | .isE c _ _ _ _ => excB G sc c && glB sc "isinstance"
  | _ => true
def Su.wf (i : Nat) : Su → Bool
  | .lst j xs _ _ _ => stK N kp sc j && xs.all (Sa.wf G sc) && !(j == i) && decide (xs.length ≤ 1000)
  | .one j x _ _ => stK N kp sc j && Sa.wf G sc x && !(j == i)
mutual
def S.wf : S → Bool
  | .set i _ e pt _ => stK N kp sc i && e.wf G N nn L sc sc
  | .setT is _ e _ _ => (is.all fun x => stK N kp sc x.1) && e.wf G N nn L sc sc && !e.isLc && (match e with | .tup .. => false | _ => true)
  | .setIx b k e _ _ => b.wf G N sc && k.wf G N sc && e.wf G N nn L sc sc && !e.isLc
  | .aug i o e _ _ => stK N kp sc i && e.wf G N nn L sc sc && (o == .Add || o == .Sub || o == .Mult)
  | .setFld b f e _ _ => b.wf G N sc && decide (f < G.an.length) && e.wf G N nn L sc sc && !e.isLc
  | .appV i e _ pa pc _ => nameAt N sc i && e.wf G N nn L sc sc && pa.endLine == pc.line
  | .appQ b k pa pc _ => b.wf G N sc && k.wf G N sc && pa.endLine == pc.line
  | .appT b k1 k2 _ _ pa pc _ => b.wf G N sc && k1.wf G N sc && k2.wf G N sc && pa.endLine == pc.line
  | .rev b pa pc _ => b.wf G N sc && pa.endLine == pc.line
  | .expr e _ => e.wf G N nn L sc sc && !e.isLc
  | .ite t a b _ => t.wf G N nn L sc sc && a.wf && b.wf
  | .forS tg it b _ => it.wf G N nn L sc sc tg.isTup && tg.wf N sc && tg.vars.all (fun i => !(kp.getD i false)) && b.wf
  | .whileS t b _ => t.wf G N nn L sc sc && b.wf
  | .ret e _ => e.wf G N nn L sc sc
  | .retN _ => true
  | .raise c _ _ _ _ _ _ => excB G sc c
  | .tryA b c i su0 su _ _ _ => b.wf && excB G sc c && (locB N sc i && nameAt N sc i) && !(kp.getD i false) && Su.wf G N kp sc i su0 && su.all (Su.wf G N kp sc i)
  | .brk _ => true
  | .cont _ => true
  | .pass _ => true
def Ss.wf : Ss → Bool
  | .nil => true
  | .cons s ss => s.wf && ss.wf
end
end
end DN

set_option Elab.async false
set_option linter.all false
set_option maxRecDepth 100000
set_option maxHeartbeats 4000000
/-! DEN, part 20: statements are sound: the frame, places that are written. -/
namespace DN
open PySem PySem.Spec PyProof.Rows L2

def Keep (kp : Nat → Bool) (σ σ' : St) : Prop := ∀ i, kp i = true → σ'[i]? = σ[i]?
theorem Keep.refl {kp : Nat → Bool} {σ : St} : Keep kp σ σ := fun _ _ => rfl
theorem Keep.trans {kp : Nat → Bool} {σ σ1 σ2 : St} (a : Keep kp σ σ1) (b : Keep kp σ1 σ2) : Keep kp σ σ2 := fun i h => (b i h).trans (a i h)
theorem Keep.set {kp : Nat → Bool} {σ : St} {i : Nat} {v : Option V} (h : kp i = false) : Keep kp σ (σ.set i v) := fun j hj => by
  rw [List.getElem?_set_ne]
  intro e
  rw [← e, h] at hj
  cases hj
def PostS (T : CTab) (W : WN) (kp : Nat → Bool) (D : Ends) (σ : St) (H Hf : Hp) (O : List Addr) (r : RS) : Prop := match r with
  | .nx env' => ∀ σ' H' Hf' O', ST T σ' H' Hf' env' O' → Keep kp σ σ' → Nxt H Hf O H' Hf' O' → D.nx σ' H'
  | .bk env' => ∀ σ' H' Hf' O', ST T σ' H' Hf' env' O' → Keep kp σ σ' → Nxt H Hf O H' Hf' O' → D.bk σ' H'
  | .ct env' => ∀ σ' H' Hf' O', ST T σ' H' Hf' env' O' → Keep kp σ σ' → Nxt H Hf O H' Hf' O' → D.ct σ' H'
  | .rt v env' => ∀ σ' u H' Hf' O' Or, ST T σ' H' Hf' env' O' → Keep kp σ σ' → Rep T Hf' H' v u Or → (O' ++ Or).Nodup → (∀ a ∈ Or, Hf' a = none) → Nxt H Hf O H' Hf' (O' ++ Or) → D.rt u H'
  | .exc c env' => ∀ σ' H' Hf' O', ST T σ' H' Hf' env' O' → Keep kp σ σ' → Nxt H Hf O H' Hf' O' → W c σ' H'
  | .bad => False
def rdS (T : CTab) (W : WN) (kp : Nat → Bool) (m : DEnv → RS) : TS := fun D σ H => ∃ Hf env O, ST T σ H Hf env O ∧ PostS T W kp D σ H Hf O (m env)
section
variable {T : CTab} {W : WN} {kp : Nat → Bool} {D : Ends} {σ σ1 : St} {H Hf H1 Hf1 : Hp} {O O1 : List Addr}
theorem PostS.base {r : RS} (h : PostS T W kp D σ H Hf O r) (k : Keep kp σ σ1) (n : Nxt H Hf O H1 Hf1 O1) : PostS T W kp D σ1 H1 Hf1 O1 r := by
  cases r with
  | nx e => exact fun σ' H' Hf' O' a b c => h σ' H' Hf' O' a (k.trans b) (n.trans c)
  | bk e => exact fun σ' H' Hf' O' a b c => h σ' H' Hf' O' a (k.trans b) (n.trans c)
  | ct e => exact fun σ' H' Hf' O' a b c => h σ' H' Hf' O' a (k.trans b) (n.trans c)
  | rt v e => exact fun σ' u H' Hf' O' Or a b c d e' f => h σ' u H' Hf' O' Or a (k.trans b) c d e' (n.trans f)
  | exc c e => exact fun σ' H' Hf' O' a b c => h σ' H' Hf' O' a (k.trans b) (n.trans c)
  | bad => exact h
theorem PostS.go {m : DEnv → RS} {env : DEnv} (S : ST T σ1 H1 Hf1 env O1) (h : PostS T W kp D σ H Hf O (m env)) (k : Keep kp σ σ1) (n : Nxt H Hf O H1 Hf1 O1) : rdS T W kp m D σ1 H1 := ⟨Hf1, env, O1, S, h.base k n⟩
theorem rdS_congr {m m' : DEnv → RS} (e : ∀ env, m env = m' env) (h : rdS T W kp m D σ H) : rdS T W kp m' D σ H := by
  rwa [show m' = m from funext fun env => (e env).symm]
/-- an expression ahead -/
theorem toS_first {α β : Type} {rel : Hp → Hp → α → β → List Addr → Prop} {m : R α} {g : α → DEnv → RS} {env : DEnv} (S : ST T σ H Hf env O) (h : PostS T W kp D σ H Hf O (m.toS g)) :
    Post T rel (fun c => W c σ) σ H Hf O m (fun u H2 => ∃ y Hf2 env2 O2 Oy, ST T σ H2 Hf2 env2 O2 ∧ rel Hf2 H2 y u Oy ∧ (O2 ++ Oy).Nodup ∧ (∀ a ∈ Oy, Hf2 a = none) ∧ Nxt H Hf O H2 Hf2 (O2 ++ Oy) ∧ PostS T W kp D σ H Hf O (g y env2)) := by
  cases m with
  | ok x env2 => exact fun u H2 Hf2 O2 Oy S2 r nd d n => ⟨x, Hf2, env2, O2, Oy, S2, r, nd, d, n, h⟩
  | exc c env2 => exact fun H2 Hf2 O2 S2 n => h σ H2 Hf2 O2 S2 Keep.refl n
  | bad => exact h
theorem s_seq {m f : DEnv → RS} (h : rdS T W kp (fun env => (m env).seq f) D σ H) : tSeq (rdS T W kp m) (rdS T W kp f) D σ H := by
  obtain ⟨Hf, env, O, S, p⟩ := h
  refine ⟨Hf, env, O, S, ?_⟩
  dsimp only at p
  cases e : m env with
  | nx env1 => rw [e] at p; exact fun σ' H' Hf' O' S' k n => PostS.go S' p k n
  | bk e1 => rw [e] at p; exact p
  | ct e1 => rw [e] at p; exact p
  | rt v e1 => rw [e] at p; exact p
  | exc c e1 => rw [e] at p; exact p
  | bad => rw [e] at p; exact p
theorem s_nil (h : rdS T W kp (fun env => .nx env) D σ H) : tNext D σ H := by
  obtain ⟨Hf, env, O, S, p⟩ := h
  exact p σ H Hf O S Keep.refl (Nxt.refl _ _ _)
theorem s_set {i : Nat} {frz : Bool} {m : DEnv → R PV} {t : TE} (hk : kp i = false) (ht : ∀ σ H Q, rd T (relV T) W m σ H Q → t σ H Q) (h : rdS T W kp (fun env => (m env).toS fun x env => .nx (env.set i (some (if frz then x.frz else x)))) D σ H) : tAsg t (gName i) D σ H := by
  obtain ⟨Hf, env, O, S, p⟩ := h
  refine ht σ H _ ⟨Hf, env, O, S, Post.mono (toS_first S p) ?_⟩
  rintro v H1 ⟨x, Hf1, env1, O1, Ox, S1, rx, nx, dx, N1, p1⟩
  cases frz with
  | false =>
    obtain ⟨O2, S2, s2⟩ := S1.put (i := i) rx nx dx
    exact p1 _ H1 Hf1 O2 S2 (Keep.set hk) (N1.weak fun a ha => List.mem_append.mpr (s2 a ha))
  | true =>
    obtain ⟨S2, rf, sf, N2⟩ := freeze S1 rx nx dx N1
    obtain ⟨O2, S3, s2⟩ := S2.put (i := i) rf (nd0 S2.nd) (fun _ h => nomatch h)
    exact p1 _ H1 _ O2 S3 (Keep.set hk) (N2.weak fun a ha => (s2 a ha).elim id fun h => nomatch h)
theorem s_setT {K : PySem.W.Frag} {is : List (Nat × Pos)} {k : Nat} {pt : Pos} {m : DEnv → R PV} (hk : ∀ i ∈ is.map (·.1), kp i = false) (h : rdS T W kp (fun env => (m env).toS fun x env => match x with
    | .tup xs => match setTup is xs env with
      | some env => .nx env
      | none => .bad
    | _ => .bad) D σ H) : tAsg (rd T (relV T) W m) (gTg K (.tup is k pt)) D σ H := by
  obtain ⟨Hf, env, O, S, p⟩ := h
  refine ⟨Hf, env, O, S, Post.mono (toS_first S p) ?_⟩
  rintro v H1 ⟨x, Hf1, env1, O1, Ox, S1, rx, nx, dx, N1, p1⟩
  cases x with
  | tup xs =>
    dsimp only at p1
    have e0 : Ox = [] := rx.notOwn rfl
    subst e0
    cases es : setTup is xs env1 with
    | none => rw [es] at p1; exact p1.elim
    | some env2 =>
      rw [es] at p1
      refine tg_put S1 rx (by show setTup is xs env1 = _; exact es) fun σ' O' S' s' l ks => p1 σ' H1 Hf1 O' S' (fun j hj => ks j fun z => ?_) (N1.weak fun a ha => List.mem_append_left _ (s' a ha))
      rw [hk j z] at hj
      cases hj
  | _ => exact p1.elim
theorem s_expr {m : DEnv → R PV} (h : rdS T W kp (fun env => (m env).toS fun _ env => .nx env) D σ H) : tDrop (rd T (relV T) W m) D σ H := by
  obtain ⟨Hf, env, O, S, p⟩ := h
  refine ⟨Hf, env, O, S, Post.mono (toS_first S p) ?_⟩
  rintro v H1 ⟨x, Hf1, env1, O1, Ox, S1, rx, nx, dx, N1, p1⟩
  exact p1 σ H1 Hf1 O1 S1 Keep.refl (N1.weak fun a ha => List.mem_append_left _ ha)
theorem s_ret {m : DEnv → R PV} (h : rdS T W kp (fun env => (m env).toS fun x env => .rt x env) D σ H) : tRet (rd T (relV T) W m) D σ H := by
  obtain ⟨Hf, env, O, S, p⟩ := h
  refine ⟨Hf, env, O, S, Post.mono (toS_first S p) ?_⟩
  rintro v H1 ⟨x, Hf1, env1, O1, Ox, S1, rx, nx, dx, N1, p1⟩
  exact p1 σ v H1 Hf1 O1 Ox S1 Keep.refl rx nx dx N1
theorem s_retN (h : rdS T W kp (fun env => .rt .non env) D σ H) : tRetN D σ H := by
  obtain ⟨Hf, env, O, S, p⟩ := h
  exact p σ .non H Hf O [] S Keep.refl .non (nd0 S.nd) (fun _ h => nomatch h) (nx0 (Nxt.refl _ _ _))
theorem s_brk (h : rdS T W kp (fun env => .bk env) D σ H) : tBreak D σ H := by
  obtain ⟨Hf, env, O, S, p⟩ := h
  exact p σ H Hf O S Keep.refl (Nxt.refl _ _ _)
theorem s_cont (h : rdS T W kp (fun env => .ct env) D σ H) : tCont D σ H := by
  obtain ⟨Hf, env, O, S, p⟩ := h
  exact p σ H Hf O S Keep.refl (Nxt.refl _ _ _)
theorem s_ite {t : DEnv → R Bool} {a b : DEnv → RS} (h : rdS T W kp (fun env => (t env).toS fun c env => if c then a env else b env) D σ H) : tIfS (rd T relB W t) (rdS T W kp a) (rdS T W kp b) D σ H := by
  obtain ⟨Hf, env, O, S, p⟩ := h
  refine ⟨Hf, env, O, S, Post.mono (toS_first S p) ?_⟩
  rintro c H1 ⟨c', Hf1, env1, O1, Ox, S1, ⟨rc, eO⟩, nx, dx, N1, p1⟩
  subst rc eO
  rw [List.append_nil] at N1
  cases c' with
  | true => rw [if_pos rfl] at p1 ⊢; exact PostS.go S1 p1 Keep.refl N1
  | false => rw [if_neg Bool.false_ne_true] at p1 ⊢; exact PostS.go S1 p1 Keep.refl N1
theorem s_for {K : PySem.W.Frag} {mi : DEnv → R (List PV)} {tg : Tg} {mb : DEnv → RS} (hv : ∀ i ∈ tg.vars, kp i = false) (h : rdS T W kp (fun env => (mi env).toS fun xs env => forRun (fun x env => tg.put x env) mb xs env) D σ H) :
    tFor (rd T (relI T) W mi) (gTg K tg) (rdS T W kp mb) D σ H := by
  obtain ⟨Hf, env, O, S, p⟩ := h
  refine ⟨Hf, env, O, S, Post.mono (toS_first S p) ?_⟩
  rintro J H1 ⟨xs, Hf1, env1, O1, Ox, S1, ⟨eO, ok⟩, nx, dx, N1, p1⟩
  subst eO
  rw [List.append_nil] at N1
  refine ⟨fun i m σ' H' => m = xs.length - i ∧ ∃ Hf' e' O', ST T σ' H' Hf' e' O' ∧ Same Hf1 Hf' ∧ PostS T W kp D σ' H' Hf' O' (forRun (fun x env => tg.put x env) mb (xs.drop i) e'), ⟨_, rfl, Hf1, env1, O1, S1, Same.refl _, p1.base Keep.refl N1⟩, ?_⟩
  rintro i m σ' H' ⟨rfl, Hf', e', O', S', sf1, q⟩
  by_cases hi : i < xs.length
  · refine .inr ⟨ok.go i Hf' H' sf1 S'.sub hi, fun σ'' H'' => ∃ Hf'' e'' O'', ST T σ'' H'' Hf'' e'' O'' ∧ Same Hf1 Hf'' ∧ PostS T W kp D σ'' H'' Hf'' O'' (forRun (fun x env => tg.put x env) mb (xs.drop (i + 1)) e''), fun σ'' H'' hH => ⟨xs.length - (i + 1), by omega, rfl, hH⟩, fun v H2 y => ?_⟩
    obtain ⟨Hf2, g1, g2, g3, g4, rx⟩ := ok.yl i xs[i] Hf' H' v H2 sf1 S'.sub (List.getElem?_eq_getElem hi) y
    rw [List.drop_eq_getElem_cons hi] at q
    unfold forRun at q
    cases et : tg.put xs[i] e' with
    | none => rw [et] at q; exact q.elim
    | some e1 =>
      rw [et] at q
      dsimp only at q
      have S2 := S'.grow g1 g2 g3 g4
      have n2 : Nxt H' Hf' O' H2 Hf2 O' := (Nxt.refl H' Hf' O').grow g1 g2 g4
      refine tg_put S2 rx et fun σ3 O3 S3 s3 hl hs => ?_
      have k3 : Keep kp σ' σ3 := fun j hj => hs j fun z => by rw [hv j z] at hj; cases hj
      have n3 : Nxt H' Hf' O' H2 Hf2 O3 := n2.weak s3
      have sf2 := sf1.trans g1
      refine ⟨Hf2, e1, O3, S3, ?_⟩
      cases eb : mb e1 with
      | nx e2 => rw [eb] at q; exact fun σ4 H4 Hf4 O4 S4 k4 n4 => ⟨Hf4, e2, O4, S4, sf2.trans n4.sf, q.base (k3.trans k4) (n3.trans n4)⟩
      | ct e2 => rw [eb] at q; exact fun σ4 H4 Hf4 O4 S4 k4 n4 => ⟨Hf4, e2, O4, S4, sf2.trans n4.sf, q.base (k3.trans k4) (n3.trans n4)⟩
      | bk e2 => rw [eb] at q; exact fun σ4 H4 Hf4 O4 S4 k4 n4 => q σ4 H4 Hf4 O4 S4 (k3.trans k4) (n3.trans n4)
      | rt v e2 => rw [eb] at q; exact fun σ4 u H4 Hf4 O4 Or S4 k4 r4 nd4 d4 n4 => q σ4 u H4 Hf4 O4 Or S4 (k3.trans k4) r4 nd4 d4 (n3.trans n4)
      | exc c e2 => rw [eb] at q; exact fun σ4 H4 Hf4 O4 S4 k4 n4 => q σ4 H4 Hf4 O4 S4 (k3.trans k4) (n3.trans n4)
      | bad => rw [eb] at q; exact q.elim
  · refine .inl ⟨ok.st i Hf' H' sf1 S'.sub (by omega), ?_⟩
    rw [List.drop_eq_nil_of_le (by omega)] at q
    exact q σ' H' Hf' O' S' Keep.refl (Nxt.refl _ _ _)
theorem s_while {mt : DEnv → R Bool} {mb : DEnv → RS} {fuel : Nat} (h : rdS T W kp (fun env => whileRun mt mb fuel env) D σ H) : tWhile (rd T relB W mt) (rdS T W kp mb) D σ H := by
  obtain ⟨Hf, env, O, S, p⟩ := h
  refine ⟨fun m σ' H' => rdS T W kp (fun env => whileRun mt mb m env) D σ' H', ⟨fuel, Hf, env, O, S, p⟩, ?_⟩
  rintro m σ' H' ⟨Hf', e', O', S', q⟩
  cases m with
  | zero => exact q.elim
  | succ m =>
    refine ⟨Hf', e', O', S', ?_⟩
    dsimp only at q
    unfold whileRun at q
    cases et : mt e' with
    | exc c e1 => rw [et] at q; exact fun H2 Hf2 O2 S2 n => q σ' H2 Hf2 O2 S2 Keep.refl n
    | bad => rw [et] at q; exact q.elim
    | ok b e1 =>
      rw [et] at q
      intro b' H2 Hf2 O2 Ox S2 ⟨rb, eO⟩ nx dx n2
      subst rb eO
      rw [List.append_nil] at n2
      cases b with
      | false => rw [if_neg Bool.false_ne_true]; exact q σ' H2 Hf2 O2 S2 Keep.refl n2
      | true =>
        rw [if_pos rfl]
        dsimp only at q
        refine ⟨rdS T W kp (fun env => whileRun mt mb m env) D, fun σ'' H'' hN => ⟨m, Nat.lt_succ_self m, hN⟩, Hf2, e1, O2, S2, ?_⟩
        cases eb : mb e1 with
        | nx e2 => rw [eb] at q; exact fun σ4 H4 Hf4 O4 S4 k4 n4 => ⟨Hf4, e2, O4, S4, q.base k4 (n2.trans n4)⟩
        | ct e2 => rw [eb] at q; exact fun σ4 H4 Hf4 O4 S4 k4 n4 => ⟨Hf4, e2, O4, S4, q.base k4 (n2.trans n4)⟩
        | bk e2 => rw [eb] at q; exact fun σ4 H4 Hf4 O4 S4 k4 n4 => q σ4 H4 Hf4 O4 S4 k4 (n2.trans n4)
        | rt v e2 => rw [eb] at q; exact fun σ4 u H4 Hf4 O4 Or S4 k4 r4 nd4 d4 n4 => q σ4 u H4 Hf4 O4 Or S4 k4 r4 nd4 d4 (n2.trans n4)
        | exc c e2 => rw [eb] at q; exact fun σ4 H4 Hf4 O4 S4 k4 n4 => q σ4 H4 Hf4 O4 S4 k4 (n2.trans n4)
        | bad => rw [eb] at q; exact q.elim
end
end DN

set_option Elab.async false
set_option linter.all false
set_option maxRecDepth 100000
set_option maxHeartbeats 4000000
/-! DEN, part 21: statements are sound: what is written into a place. -/
namespace DN
open PySem PySem.Spec PyProof.Rows L2

section
variable {T : CTab} {σ : St} {H Hf : Hp} {O Oy : List Addr} {env : DEnv} {i : Nat} {ks : List Nat} {v : V}
theorem Foc.grow {x : PV} {Hf' H' : Hp} (f : Foc T Hf H env σ O i ks x v) (sf : Same Hf Hf') (k : ∀ a ∈ O, H' a = H a) : Foc T Hf' H' env σ O i ks x v := by
  refine ⟨f.var, ?_⟩
  obtain ⟨O1, Om, O2, e1, e2, p⟩ := f.ex
  refine ⟨O1, Om, O2, e1, e2.move sf fun a ha => k a (by rw [e1]; exact List.mem_append_right _ (List.mem_append_left _ ha)), fun {Hf2 H2 x' Om'} s kk ow h => p (sf.trans s) (fun a ha => ?_) ow h⟩
  rw [kk a ha]
  exact k a (by rw [e1]; exact ha.elim (List.mem_append_left _) fun z => List.mem_append_right _ (List.mem_append_right _ z))
/-- an owned container at a place: its object gets another content -/
theorem place_put {x : PV} {a : Addr} {Oc : List Addr} (S : ST T σ H Hf env O) (f : Foc T Hf H env σ O i ks x (.ref a)) (hx : x.own = true) (nd : (O ++ Oy).Nodup) (dy : ∀ b ∈ Oy, Hf b = none)
    {O1 O2 : List Addr} (e1 : O = O1 ++ ((a :: Oc) ++ O2)) (p : ∀ {Hf' H' : Hp} {x' : PV} {Om' : List Addr}, Same Hf Hf' → (∀ a, a ∈ O1 ∨ a ∈ O2 → H' a = H a) → (x.own = true ∨ Om' = []) → Rep T Hf' H' x' (.ref a) Om' → EnvR T Hf' H' (setLoc env i ks x') σ (O1 ++ (Om' ++ O2))) :
    ∀ {x' : PV} {ho' : HO} {Oc' : List Addr}, (∀ H', (∀ b ∈ Oc', H' b = H b) → H' a = some ho' → Rep T Hf H' x' (.ref a) (a :: Oc')) → Oc'.Nodup → (∀ b ∈ Oc', b ∈ Oc ∨ b ∈ Oy) →
      ∃ O', ST T σ (upd H a ho') Hf (setLoc env i ks x') O' ∧ (∀ b ∈ O', b ∈ O ∨ b ∈ Oy) ∧ Nxt H Hf (O ++ Oy) (upd H a ho') Hf O' := by
  intro x' ho' Oc' hr' nc sc
  have ndO := ndl nd
  rw [e1] at ndO
  have aO : a ∈ O := by rw [e1]; exact List.mem_append_right _ (List.mem_append_left _ List.mem_cons_self)
  have nea : ∀ b, b ∈ O1 ∨ b ∈ O2 ∨ b ∈ Oc ∨ b ∈ Oy → b ≠ a := fun b hb e => by
    subst e
    rcases hb with z | z | z | z
    · exact ndx ndO z (List.mem_append_left _ List.mem_cons_self)
    · exact ndx (ndr ndO) List.mem_cons_self z
    · exact (List.nodup_cons.mp (ndl (ndr ndO))).1 z
    · exact ndx nd aO z
  have r' := p (Hf' := Hf) (H' := upd H a ho') (x' := x') (Om' := a :: Oc') (Same.refl _) (fun b hb => upd_ne (nea b (hb.elim .inl fun z => .inr (.inl z)))) (.inl hx)
    (hr' _ (fun b hb => upd_ne (nea b ((sc b hb).elim (fun z => .inr (.inr (.inl z))) fun z => .inr (.inr (.inr z))))) upd_same)
  have mem : ∀ b ∈ O1 ++ (a :: Oc' ++ O2), b ∈ O ∨ b ∈ Oy := fun b hb => by
    rw [e1]
    rcases List.mem_append.mp hb with z | z
    · exact .inl (List.mem_append_left _ z)
    · rcases List.mem_append.mp z with z | z
      · rcases List.mem_cons.mp z with z | z
        · exact .inl (List.mem_append_right _ (List.mem_append_left _ (z ▸ List.mem_cons_self)))
        · exact (sc b z).imp (fun q => List.mem_append_right _ (List.mem_append_left _ (List.mem_cons_of_mem _ q))) id
      · exact .inl (List.mem_append_right _ (List.mem_append_right _ z))
  have oO : ∀ b, b ∈ O1 ∨ b ∈ O2 → b ∈ O := fun b hb => by rw [e1]; exact hb.elim (List.mem_append_left _) fun z => List.mem_append_right _ (List.mem_append_right _ z)
  have ndn : (O1 ++ (a :: Oc' ++ O2)).Nodup := by
    have n12 : (O1 ++ O2).Nodup := ndm (ndl ndO) (ndr (ndr ndO)) fun b x y => ndx ndO x (List.mem_append_right _ y)
    refine nodup3 n12 (List.nodup_cons.mpr ⟨fun z => nea a ((sc a z).elim (fun q => .inr (.inr (.inl q))) fun q => .inr (.inr (.inr q))) rfl, nc⟩) fun b hb => ?_
    rcases List.mem_cons.mp hb with z | z
    · subst z
      exact ⟨fun z => nea b (.inl z) rfl, fun z => nea b (.inr (.inl z)) rfl⟩
    · rcases sc b z with q | q
      · exact ⟨fun w => ndx ndO w (List.mem_append_left _ (List.mem_cons_of_mem _ q)), fun w => ndx (ndr ndO) (List.mem_cons_of_mem _ q) w⟩
      · exact ⟨fun w => ndx nd (oO b (.inl w)) q, fun w => ndx nd (oO b (.inr w)) q⟩
  refine ⟨_, ⟨r', ndn, fun c o e => ?_, fun b hb => (mem b hb).elim (S.dis b) (dy b)⟩, mem, ⟨Same.refl _, fun c o hc e => ?_, fun c hc => .inl (List.mem_append.mpr (mem c hc)), fun c hc => .inl hc⟩⟩
  · have hca : c ≠ a := fun z => by subst z; rw [S.dis c aO] at e; cases e
    rw [upd_ne hca]
    exact S.sub c o e
  · rw [upd_ne fun z => hc (by rw [z]; exact List.mem_append_left _ aO)]
    exact e
/-- an owned list at a place -/
theorem place_lst {xs : List PV} (S : ST T σ H Hf env O) (f : Foc T Hf H env σ O i ks (.lst true xs) v) (nd : (O ++ Oy).Nodup) (dy : ∀ b ∈ Oy, Hf b = none) :
    ∃ a vs Oc, v = .ref a ∧ H a = some (.lst vs) ∧ Reps T Hf H xs vs Oc ∧ Oc.Nodup ∧ (∀ b ∈ Oc, b ∈ O) ∧ ∀ xs' vs' Oc', Reps T Hf H xs' vs' Oc' → Oc'.Nodup → (∀ b ∈ Oc', b ∈ Oc ∨ b ∈ Oy) →
      ∃ O', ST T σ (upd H a (.lst vs')) Hf (setLoc env i ks (.lst true xs')) O' ∧ (∀ b ∈ O', b ∈ O ∨ b ∈ Oy) ∧ Nxt H Hf (O ++ Oy) (upd H a (.lst vs')) Hf O' := by
  obtain ⟨O1, Om, O2, e1, e2, p⟩ := f.ex
  cases e2 with
  | @lstO a _ vs Oc h rs =>
    have ndO := ndl nd
    rw [e1] at ndO
    refine ⟨a, vs, Oc, rfl, h, rs, (List.nodup_cons.mp (ndl (ndr ndO))).2, fun b hb => by rw [e1]; exact List.mem_append_right _ (List.mem_append_left _ (List.mem_cons_of_mem _ hb)), fun xs' vs' Oc' rs' nc sc => ?_⟩
    exact place_put S f rfl nd dy e1 p (fun H' kb ka => .lstO ka (rs'.move (Same.refl _) kb)) nc sc
/-- an owned instance at a place -/
theorem place_ins {c : Nat} {xs : List PV} (S : ST T σ H Hf env O) (f : Foc T Hf H env σ O i ks (.ins true c xs) v) (nd : (O ++ Oy).Nodup) (dy : ∀ b ∈ Oy, Hf b = none) :
    ∃ a dx vs Oc, v = .ref a ∧ H a = some (.ins (T.adr c) dx (zipF T c vs)) ∧ vs.length ≤ (T.fld c).length ∧ Reps T Hf H xs vs Oc ∧ Oc.Nodup ∧ (∀ b ∈ Oc, b ∈ O) ∧ ∀ xs' vs' Oc', vs'.length ≤ (T.fld c).length → Reps T Hf H xs' vs' Oc' → Oc'.Nodup → (∀ b ∈ Oc', b ∈ Oc ∨ b ∈ Oy) →
      ∃ O', ST T σ (upd H a (.ins (T.adr c) dx (zipF T c vs'))) Hf (setLoc env i ks (.ins true c xs')) O' ∧ (∀ b ∈ O', b ∈ O ∨ b ∈ Oy) ∧ Nxt H Hf (O ++ Oy) (upd H a (.ins (T.adr c) dx (zipF T c vs'))) Hf O' := by
  obtain ⟨O1, Om, O2, e1, e2, p⟩ := f.ex
  cases e2 with
  | @insO a dx _ _ vs Oc h l rs =>
    have ndO := ndl nd
    rw [e1] at ndO
    refine ⟨a, dx, vs, Oc, rfl, h, l, rs, (List.nodup_cons.mp (ndl (ndr ndO))).2, fun b hb => by rw [e1]; exact List.mem_append_right _ (List.mem_append_left _ (List.mem_cons_of_mem _ hb)), fun xs' vs' Oc' l' rs' nc sc => ?_⟩
    exact place_put S f rfl nd dy e1 p (fun H' kb ka => .insO ka l' (rs'.move (Same.refl _) kb)) nc sc
end

section
variable {T : CTab} {G : Prg} {W : WN} {kp : Nat → Bool} {D : Ends} {σ : St} {H : Hp}
theorem set_nodup {O1 Om O2 Oy : List Addr} (h : (O1 ++ (Om ++ O2)).Nodup) (hy : Oy.Nodup) (d : ∀ b ∈ Oy, b ∉ O1 ∧ b ∉ O2) : (O1 ++ (Oy ++ O2)).Nodup :=
  nodup3 (ndm (ndl h) (ndr (ndr h)) fun b x y => ndx h x (List.mem_append_right _ y)) hy d
theorem s_setIx {b : P} {k : Qe} {m : DEnv → R PV} (h : rdS T W kp (fun env => (m env).toS fun x env => match b.loc G env, k.ev G env with
    | some (i, ks, .lst true xs), some (.int n) => match ixN xs.length n with
      | some j => .nx (setLoc env i ks (.lst true (xs.set j x)))
      | none => .bad
    | _, _ => .bad) D σ H) : tAsg (rd T (relV T) W m) (gSub (rdP T G b) (rdQ T G k) rSetL) D σ H := by
  obtain ⟨Hf, env, O, S, p⟩ := h
  refine ⟨Hf, env, O, S, Post.mono (toS_first S p) ?_⟩
  rintro v H1 ⟨x, Hf1, env1, O1, Ox, S1, rx, nx, dx, N1, p1⟩
  split at p1
  · rename_i i ks xs n el ek
    split at p1
    · rename_i j ej
      refine ⟨Hf1, env1, O1, S1, i, ks, _, el, fun w st fo => ⟨Hf1, env1, O1, S1, .int n, ek, fun u ru => ?_⟩⟩
      cases ru
      obtain ⟨a, vs, Oc, rfl, e1, rs, nc, sc, put⟩ := place_lst S1 fo nx dx
      have hj := (ixN_seq ej).2.1
      obtain ⟨y0, P1, Pm, P2, f1, f2, f3, f4⟩ := rs.focus (List.getElem?_eq_getElem hj)
      subst f2
      refine ⟨a, vs, n, j, rfl, rfl, e1, by rw [← rs.len]; exact ej, ?_⟩
      obtain ⟨O2, S2, m2, n2⟩ := put (xs.set j x) (vs.set j v) (P1 ++ (Ox ++ P2)) (f4 (Same.refl _) (fun _ _ => rfl) rx) (set_nodup nc (ndr nx) fun b hb => ⟨fun z => ndx nx (sc b (List.mem_append_left _ z)) hb, fun z => ndx nx (sc b (List.mem_append_right _ (List.mem_append_right _ z))) hb⟩) fun b hb => by
        rcases List.mem_append.mp hb with z | z
        · exact .inl (List.mem_append_left _ z)
        · rcases List.mem_append.mp z with z | z
          · exact .inr z
          · exact .inl (List.mem_append_right _ (List.mem_append_right _ z))
      exact p1 σ _ Hf1 O2 S2 Keep.refl (N1.trans n2)
    · exact p1.elim
  · exact p1.elim
/-- what an append does -/
theorem app_put {Hf : Hp} {env : DEnv} {O Oy : List Addr} {i : Nat} {ks : List Nat} {xs : List PV} {x : PV} {v u : V} {K : PySem.W.Frag} (S : ST T σ H Hf env O) (fo : Foc T Hf H env σ O i ks (.lst true xs) v) (rx : Rep T Hf H x u Oy) (nd : (O ++ Oy).Nodup) (dy : ∀ b ∈ Oy, Hf b = none) (hz : xs.length < sizeLine)
    {Q : VK} (q : ∀ H' O', ST T σ H' Hf (setLoc env i ks (.lst true (xs ++ [x]))) O' → Nxt H Hf (O ++ Oy) H' Hf O' → Q .non H') : rAppend v [u] H Q := by
  obtain ⟨a, vs, Oc, rfl, e1, rs, nc, sc, put⟩ := place_lst S fo nd dy
  have r2 := rs.app (Reps.cons rx .nil)
  obtain ⟨O2, S2, m2, n2⟩ := put (xs ++ [x]) (vs ++ [u]) _ r2 (by
    rw [List.append_nil]
    exact ndm nc (ndr nd) fun b x y => ndx nd (sc b x) y) fun b hb => by
    rw [List.append_nil] at hb
    exact List.mem_append.mp hb
  exact ⟨a, vs, u, rfl, rfl, e1, by rw [← rs.len]; exact hz, q _ O2 S2 n2⟩
theorem lst_ty {Hf : Hp} {env : DEnv} {O : List Addr} {i : Nat} {ks : List Nat} {xs : List PV} {v : V} {K : PySem.W.Frag} (fo : Foc T Hf H env σ O i ks (.lst true xs) v) : tyV K "list" v H := by
  obtain ⟨P1, Pm, P2, e1, r, _⟩ := fo.ex
  cases r with
  | lstO h r => exact .inl ⟨rfl, _, SqL.ofHO _ h⟩
theorem s_appV {i : Nat} {K : PySem.W.Frag} {m : DEnv → R PV} (h : rdS T W kp (fun env => match env[i]? with
    | some (some (.lst true _)) => (m env).toS fun x env => match env[i]? with
      | some (some (.lst true xs)) => if decide (xs.length < sizeLine) then .nx (env.set i (some (.lst true (xs ++ [x])))) else .bad
      | _ => .bad
    | _ => .bad) D σ H) : tDrop (tBM K "list" rAppend (tVar i) (tCons (rd T (relV T) W m) tNil)) D σ H := by
  obtain ⟨Hf, env, O, S, p⟩ := h
  dsimp only at p
  split at p
  · rename_i xs0 ex
    obtain ⟨v, fo⟩ := Foc.slot S.rep ex
    refine ⟨v, fo.var rfl, lst_ty fo, Hf, env, O, S, Post.mono (toS_first S p) ?_⟩
    rintro u H1 ⟨x, Hf1, env1, O1, Ox, S1, rx, nx, dx, N1, p1⟩
    split at p1
    · rename_i xs ex1
      split at p1
      · rename_i hz
        obtain ⟨v', fo1⟩ := Foc.slot S1.rep ex1
        have ev : v' = v := by
          have a1 := fo.var rfl
          have a2 := fo1.var rfl
          rw [a1] at a2
          cases a2
          rfl
        subst ev
        refine app_put (K := K) (Q := fun _ H => D.nx σ H) S1 fo1 rx nx dx (of_decide_eq_true hz) fun H' O' S' n' => ?_
        have e : setLoc env1 i [] (.lst true (xs ++ [x])) = env1.set i (some (.lst true (xs ++ [x]))) := by
          unfold setLoc
          rw [ex1]
          rfl
        rw [e] at S'
        exact p1 σ H' Hf1 O' S' Keep.refl (N1.trans n')
      · exact p1.elim
    · exact p1.elim
  · exact p.elim
theorem qv_none {k : Qe} {env : DEnv} {x : PV} {Hf : Hp} {v : V} {O : List Addr} (r : Rep T Hf H x v []) : x.own = false := by
  cases hw : x.own with
  | false => rfl
  | true =>
    generalize hO : ([] : List Addr) = O' at r
    cases r <;> first | (cases hw; done) | (cases hO; done)
theorem s_appQ {b : P} {k : Qe} {K : PySem.W.Frag} (h : rdS T W kp (fun env => match b.loc G env, k.ev G env with
    | some (i, ks, .lst true xs), some x => if decide (xs.length < sizeLine) then .nx (setLoc env i ks (.lst true (xs ++ [x]))) else .bad
    | _, _ => .bad) D σ H) : tDrop (tBM K "list" rAppend (rdP T G b) (tCons (rdQ T G k) tNil)) D σ H := by
  obtain ⟨Hf, env, O, S, p⟩ := h
  dsimp only at p
  split at p
  · rename_i i ks xs x el ek
    split at p
    · rename_i hz
      refine ⟨Hf, env, O, S, i, ks, _, el, fun v st fo => ⟨lst_ty fo, Hf, env, O, S, x, ek, fun u ru => ?_⟩⟩
      exact app_put (K := K) (Q := fun _ H => D.nx σ H) S fo ru (nd0 S.nd) (fun _ h => nomatch h) (of_decide_eq_true hz) fun H' O' S' n' => p σ H' Hf O' S' Keep.refl (by rw [List.append_nil] at n'; exact n')
    · exact p.elim
  · exact p.elim
theorem s_appT {b : P} {k1 k2 : Qe} {K : PySem.W.Frag} (h : rdS T W kp (fun env => match b.loc G env, k1.ev G env, k2.ev G env with
    | some (i, ks, .lst true xs), some x, some y => if decide (xs.length < sizeLine) then .nx (setLoc env i ks (.lst true (xs ++ [.tup [x, y]]))) else .bad
    | _, _, _ => .bad) D σ H) : tDrop (tBM K "list" rAppend (rdP T G b) (tCons (tTup (tCons (rdQ T G k1) (tCons (rdQ T G k2) tNil))) tNil)) D σ H := by
  obtain ⟨Hf, env, O, S, p⟩ := h
  dsimp only at p
  split at p
  · rename_i i ks xs x y el ek1 ek2
    split at p
    · rename_i hz
      refine ⟨Hf, env, O, S, i, ks, _, el, fun v st fo => ⟨lst_ty fo, Hf, env, O, S, x, ek1, fun u ru => ⟨Hf, env, O, S, y, ek2, fun w rw' => ⟨by show 2 ≤ sizeLine; decide, fun q hq => ?_⟩⟩⟩⟩
      have hf := Same.none' S.sub hq
      have s1 : Same Hf (upd Hf q (.tup [u, w])) := same_upd hf
      have s2 : Same H (upd H q (.tup [u, w])) := same_upd hq
      have fz : ∀ a, upd Hf q (.tup [u, w]) a ≠ none → Hf a ≠ none ∨ H a = none := fun a ha => by
        by_cases e : a = q
        · subst e; exact .inr hq
        · rw [upd_ne e] at ha; exact .inl ha
      have S' := S.grow s1 s2 (same_upd2 S.sub) fz
      have fo' : Foc T (upd Hf q (.tup [u, w])) (upd H q (.tup [u, w])) env σ O i ks (.lst true xs) v := fo.grow s1 fun a ha => by
        obtain ⟨o, e⟩ := S.rep.there a ha
        rw [e]; exact s2 _ _ e
      have rt : Rep T (upd Hf q (.tup [u, w])) (upd H q (.tup [u, w])) (.tup [x, y]) (.ref q) [] := .tup upd_same (Reps.consN (ru.still s1) (Reps.consN (rw'.still s1) .nil))
      refine app_put (K := K) (Q := fun _ H => D.nx σ H) S' fo' rt (nd0 S'.nd) (fun _ h => nomatch h) (of_decide_eq_true hz) fun H' O' S2 n' => p σ H' _ O' S2 Keep.refl ?_
      rw [List.append_nil] at n'
      exact ((Nxt.refl H Hf O).grow s1 s2 fz).trans n'
    · exact p.elim
  · exact p.elim
theorem s_rev {b : P} {K : PySem.W.Frag} (h : rdS T W kp (fun env => match b.loc G env with
    | some (i, ks, .lst true xs) => if flatP xs then .nx (setLoc env i ks (.lst true xs.reverse)) else .bad
    | _ => .bad) D σ H) : tDrop (tBM0 K "list" rReverse (rdP T G b)) D σ H := by
  obtain ⟨Hf, env, O, S, p⟩ := h
  dsimp only at p
  split at p
  · rename_i i ks xs el
    split at p
    · rename_i hf
      refine ⟨Hf, env, O, S, i, ks, _, el, fun v st fo => ⟨lst_ty fo, ?_⟩⟩
      obtain ⟨a, vs, Oc, rfl, e1, rs, nc, sc, put⟩ := place_lst (Oy := []) S fo (nd0 S.nd) (fun _ h => nomatch h)
      have e0 := rs.notOwn hf
      subst e0
      obtain ⟨O2, S2, m2, n2⟩ := put xs.reverse vs.reverse [] rs.rev .nil fun _ h => nomatch h
      rw [List.append_nil] at n2
      exact ⟨a, vs, rfl, rfl, e1, p σ _ Hf O2 S2 Keep.refl n2⟩
    · exact p.elim
  · exact p.elim
end
end DN

set_option Elab.async false
set_option linter.all false
set_option maxRecDepth 100000
set_option maxHeartbeats 4000000
/-! DEN, part 22: statements are sound: op=, fields, raise, try. -/
namespace DN
open PySem PySem.Spec PyProof.Rows L2

/-- the facts of a program's exception classes; fields are few -/
structure TopX (T : CTab) (G : Prg) (mg : Str → Option Value) : Prop where
  cls : ∀ c, c < G.sub.length → mg (G.cn.getD c "") = some (.ref (T.adr c)) ∧ PySem.W.keepIn T.K (.ref (T.adr c)) = true ∧ (G.cn.getD c "" == ("__debug__" : Str)) = false ∧ ExcC T.K (T.adr c) ∧
    (∃ B newId initId bmB, PySem.ExcBaseFacts B newId initId bmB ∧ PySem.W.excIn T.K (T.adr c) bmB newId = true) ∧ PySem.W.subIn T.K (.ref (T.adr c)) (.type "BaseException") = some true ∧ PySem.W.typeIn T.K (.ref (T.adr c)) = some (.type "type")
  sub : ∀ c d b, subOf G c d = some b → c < G.sub.length ∧ PySem.W.exmOne T.K (.ref (T.adr c)) (.ref (T.adr d)) = some b ∧ PySem.W.kitOne T.K (.ref (T.adr c)) (.ref (T.adr d)) = some b
  few : ∀ c, (T.fld c).length < 1000
/-- exceptions that go out, in the hand layer's words -/
def WXd (T : CTab) (W : WN) : WX := fun cls d σ H => ∃ c, cls = .ref (T.adr c) ∧ d = none ∧ W c σ H
/-- where a def's statements run -/
structure SC (T : CTab) (G : Prg) (F : Fns) (N : List Str) (nn L : Nat) (sc : Scope) (X : Cx) (W : WN) : Prop where
  e : EC T G F N nn L sc sc X W
  tk : Takes X (WXd T W)
  po : PassesOwn (model X.prog X.w) X.A X.env X.xe
  stk : X.stack = X.env :: X.outer
  fr : X.env.frame = some X.env.locals
  kind : sc.kind = .function
  fn : ∀ x, X.fn x = true
  x : TopX T G X.mg

section
variable {T : CTab} {G : Prg} {W : WN} {kp : Nat → Bool} {D : Ends} {σ : St} {H : Hp} {X : Cx}
def ipP (o : Operator) : TIp := fun x y H Q => ∃ i j n, x = .int i ∧ y = .int j ∧ binP o (.int i) (.int j) = some (.int n) ∧ Q (.int n) H
theorem ip_P {o : Operator} (ho : (o == .Add || o == .Sub || o == .Mult) = true) : PIp X o (ipP o) := by
  intro pins s σ H x y v u Q I rx ry h
  obtain ⟨i, j, n, rfl, rfl, e, q⟩ := h
  cases o with
  | Add => simp only [binP] at e; cases e; exact iop_add pins s σ H _ _ v u Q I rx ry ⟨i, j, rfl, rfl, q⟩
  | Sub => simp only [binP] at e; cases e; exact iop_sub pins s σ H _ _ v u Q I rx ry ⟨i, j, rfl, rfl, q⟩
  | Mult =>
    simp only [binP] at e
    split at e
    · rename_i hm
      cases e
      obtain ⟨t, rfl⟩ := rx
      obtain ⟨t', rfl⟩ := ry
      exact imul_int ⟨.int _, H, I.tok _, ⟨_, rfl⟩, q⟩ (mulOk_ok hm)
    · cases e
  | _ => cases ho
theorem s_aug {i : Nat} {o : Operator} {m : DEnv → R PV} (hk : kp i = false) (h : rdS T W kp (fun env0 => match env0[i]? with
    | some (some (.int a)) => (m env0).toS fun y env => match y with
      | .int b => match binP o (.int a) (.int b) with
        | some z => .nx (env.set i (some z))
        | none => .bad
      | _ => .bad
    | _ => .bad) D σ H) : tAug i (rd T (relV T) W m) (ipP o) D σ H := by
  obtain ⟨Hf, env, O, S, p⟩ := h
  dsimp only at p
  split at p
  · rename_i a ea
    obtain ⟨v, P1, Pm, P2, f1, f2, f3, _⟩ := S.rep.focus ea
    cases f3
    refine ⟨_, f1, Hf, env, O, S, Post.mono (toS_first S p) ?_⟩
    rintro u H1 ⟨y, Hf1, env1, O1, Ox, S1, ry, nx, dx, N1, p1⟩
    cases y with
    | int b =>
      dsimp only at p1
      cases eb : binP o (.int a) (.int b) with
      | none => rw [eb] at p1; exact p1.elim
      | some z =>
        rw [eb] at p1
        obtain ⟨n, rfl⟩ := binP_int eb
        cases ry
        obtain ⟨O2, S2, s2⟩ := S1.put (i := i) (.int n) (nd0 S1.nd) (fun _ h => nomatch h)
        exact ⟨a, b, n, rfl, rfl, eb, p1 _ H1 Hf1 O2 S2 (Keep.set hk) (N1.weak fun a ha => List.mem_append_left _ ((s2 a ha).elim id fun h => nomatch h))⟩
    | _ => exact p1.elim
  · exact p.elim
theorem putF_zip {f : Str} {v : V} : ∀ {l : List Str} {vs : List V} {j : Nat}, l.Nodup → l[j]? = some f → (j < vs.length → putF f v (l.zip vs) = l.zip (vs.set j v)) ∧ (j = vs.length → putF f v (l.zip vs) = l.zip (vs ++ [v]))
  | [], _, _, _, e => by cases e
  | g :: l, [], 0, nd, e => by
    cases e
    refine ⟨fun h => (nomatch h), fun _ => ?_⟩
    show [(f, v)] = (f, v) :: l.zip []
    rw [List.zip_nil_right]
  | g :: l, [], j + 1, nd, e => ⟨fun h => (nomatch h), fun h => (nomatch h)⟩
  | g :: l, w :: vs, 0, nd, e => by
    cases e
    refine ⟨fun _ => ?_, fun h => (nomatch h)⟩
    show (if f = f then (f, v) :: l.zip vs else _) = _
    rw [if_pos rfl]
    rfl
  | g :: l, w :: vs, j + 1, nd, e => by
    have e' : l[j]? = some f := e
    have ne : g ≠ f := fun z => (List.nodup_cons.mp nd).1 (z ▸ List.mem_of_getElem? e')
    obtain ⟨a, b⟩ := putF_zip (v := v) (vs := vs) (List.nodup_cons.mp nd).2 e'
    refine ⟨fun h => ?_, fun h => ?_⟩
    · show (if g = f then _ else (g, w) :: putF f v (l.zip vs)) = _
      rw [if_neg ne, a (by simpa using h)]
      rfl
    · show (if g = f then _ else (g, w) :: putF f v (l.zip vs)) = _
      rw [if_neg ne, b (by simpa using h)]
      rfl
theorem s_setFld {b : P} {f : Nat} {m : DEnv → R PV} (t : TopF T G X.mg) (K : X.K = T.K) (few : ∀ c, (T.fld c).length < 1000) (h : rdS T W kp (fun env => (m env).toS fun x env => match b.loc G env with
    | some (i, ks, .ins true c xs) => match fldIx G c f with
      | some j => match putFld xs j x with
        | some ys => .nx (setLoc env i ks (.ins true c ys))
        | none => .bad
      | none => .bad
    | _ => .bad) D σ H) : sFld X.K (rdP T G b) (rd T (relV T) W m) (G.an.getD f "") D σ H := by
  obtain ⟨Hf, env, O, S, p⟩ := h
  refine ⟨Hf, env, O, S, Post.mono (toS_first S p) ?_⟩
  rintro v H1 ⟨x, Hf1, env1, O1, Ox, S1, rx, nx, dx, N1, p1⟩
  split at p1
  · rename_i i ks c xs el
    split at p1
    · rename_i j ej
      split at p1
      · rename_i ys ey
        refine ⟨Hf1, env1, O1, S1, i, ks, _, el, fun w st fo => ?_⟩
        obtain ⟨a, dd, vs, Oc, rfl, e1, lv, rs, nc, sc, put⟩ := place_ins S1 fo nx dx
        have hl : ∃ l, G.cf[c]? = some l ∧ f ∈ l ∧ (T.fld c)[j]? = some (G.an.getD f "") := by
          unfold fldIx at ej
          cases q : G.cf[c]? with
          | none => rw [q] at ej; cases ej
          | some l =>
            rw [q] at ej
            have e' : l.findIdx? (· == f) = some j := ej
            obtain ⟨hj, h1, _⟩ := List.findIdx?_eq_some_iff_getElem.mp e'
            have hf : l[j] = f := by simpa using h1
            have hlj : l[j]? = some f := by rw [List.getElem?_eq_getElem hj, hf]
            refine ⟨l, rfl, List.mem_of_getElem? hlj, ?_⟩
            rw [t.fld c l q, List.getElem?_map, hlj]
            rfl
        obtain ⟨l, q1, q2, q3⟩ := hl
        have hjl : j < (T.fld c).length := (List.getElem?_eq_some_iff.mp q3).1
        obtain ⟨za, zb⟩ := putF_zip (v := v) (vs := vs) (t.fldND q1) q3
        refine ⟨a, T.adr c, dd, zipF T c vs, rfl, e1, by rw [K]; exact t.cl c l f q1 q2, by rw [K]; exact (t.na c l f q1 q2).1, ?_, ?_⟩
        · unfold zipF
          rw [List.length_zip]
          have := few c
          omega
        · unfold putFld at ey
          by_cases hj : j < xs.length
          · rw [if_pos hj] at ey
            cases ey
            obtain ⟨y0, P1, Pm, P2, f1, f2, f3, f4⟩ := rs.focus (List.getElem?_eq_getElem hj)
            subst f2
            obtain ⟨O2, S2, m2, n2⟩ := put (xs.set j x) (vs.set j v) (P1 ++ (Ox ++ P2)) (by rw [List.length_set]; exact lv) (f4 (Same.refl _) (fun _ _ => rfl) rx) (set_nodup nc (ndr nx) fun b hb => ⟨fun z => ndx nx (sc b (List.mem_append_left _ z)) hb, fun z => ndx nx (sc b (List.mem_append_right _ (List.mem_append_right _ z))) hb⟩) fun b hb => by
              rcases List.mem_append.mp hb with z | z
              · exact .inl (List.mem_append_left _ z)
              · rcases List.mem_append.mp z with z | z
                · exact .inr z
                · exact .inl (List.mem_append_right _ (List.mem_append_right _ z))
            have z := za (by rw [← rs.len]; exact hj)
            unfold zipF at S2 n2 ⊢
            rw [z]
            exact p1 σ _ Hf1 O2 S2 Keep.refl (N1.trans n2)
          · rw [if_neg hj] at ey
            by_cases hj2 : j = xs.length
            · rw [if_pos hj2] at ey
              cases ey
              obtain ⟨O2, S2, m2, n2⟩ := put (xs ++ [x]) (vs ++ [v]) _ (by rw [List.length_append, ← rs.len, ← hj2]; show j + 1 ≤ _; omega) (rs.app (.cons rx .nil)) (by
                rw [List.append_nil]
                exact ndm nc (ndr nx) fun b x y => ndx nx (sc b x) y) fun b hb => by
                rw [List.append_nil] at hb
                exact List.mem_append.mp hb
              have z := zb (by rw [← rs.len]; exact hj2)
              unfold zipF at S2 n2 ⊢
              rw [z]
              exact p1 σ _ Hf1 O2 S2 Keep.refl (N1.trans n2)
            · rw [if_neg hj2] at ey; cases ey
      · exact p1.elim
    · exact p1.elim
  · exact p1.elim
end

section
variable {T : CTab} {G : Prg} {F : Fns} {N : List Str} {nn L : Nat} {sc : Scope} {X : Cx} {W : WN} {kp : Nat → Bool}
theorem s_raise (C : SC T G F N nn L sc X W) {c : Nat} {m : Str} {j : Nat} {pn pm pc p : Pos} (hc : excB G sc c = true) : PS X (.Raise (some (.Call (.Name (G.cn.getD c "") pn) [.Constant (.str m) j pm] [] pc)) none p) (rdS T W kp fun env => .exc c env) := by
  unfold excB at hc
  rw [Bool.and_eq_true] at hc
  obtain ⟨c1, c2, c3, c4, ⟨B, n1, n2, bm, F1, q⟩, c6, c7⟩ := C.x.cls c (of_decide_eq_true hc.1)
  have K := C.e.c.K
  have z := ps_raise (pos := p) C.e.c.calm C.tk (pmk_own (x := G.cn.getD c "") (m := m) (j := j) (p := pn) (p2 := pm) (pos := pc) F1 (by rw [K]; exact q) c1 (by rw [K]; exact c2) (raises_own (by rw [K]; exact c6) (by rw [K]; exact c7)) (C.e.gl hc.2) c3)
  refine ⟨fun pins s σ H D I h => z.run pins s σ H D I ?_⟩
  obtain ⟨Hf, env, O, S, p⟩ := h
  exact ⟨c, rfl, rfl, p σ H Hf O S Keep.refl (Nxt.refl _ _ _)⟩
end
end DN

set_option Elab.async false
set_option linter.all false
set_option maxRecDepth 100000
set_option maxHeartbeats 4000000
/-! DEN, part 23: except suites; try. -/
namespace DN
open PySem PySem.Spec PyProof.Rows L2

section
variable {T : CTab} {Hf H : Hp}
theorem flat_rep {x : PV} {u : V} (e : x.flat = some u) : Rep T Hf H x u [] := by
  cases x <;> first | (cases e; constructor) | cases e
theorem flats_rep : ∀ {xs : List PV} {us : List V}, flats xs = some us → Reps T Hf H xs us []
  | [], _, e => by cases e; exact .nil
  | x :: xs, _, e => by
    unfold flats at e
    split at e
    · rename_i v vs e1 e2
      cases e
      exact Reps.consN (flat_rep e1) (flats_rep e2)
    · cases e
end
section
variable {T : CTab} {G : Prg} {F : Fns} {N : List Str} {nn L : Nat} {sc : Scope} {X : Cx} {W : WN} {kpl : List Bool}
theorem sa_flat {c : Nat} {x : Sa} {v : PV} (e : x.ev G c = some v) : ∃ u, v.flat = some u := by
  cases x with
  | bl b j p => cases e; exact ⟨_, rfl⟩
  | int b j p => cases e; exact ⟨_, rfl⟩
  | str b j p => cases e; exact ⟨_, rfl⟩
  | non j p => cases e; exact ⟨_, rfl⟩
  | isE d pn pe pc p =>
    have e' : (subOf G c d).map PV.bl = some v := e
    cases q : subOf G c d with
    | none => rw [q] at e'; cases e'
    | some b => rw [q] at e'; cases e'; exact ⟨_, rfl⟩
theorem sas_flat {c : Nat} : ∀ {xs : List Sa} {vs : List PV}, Sa.evs G c xs = some vs → ∃ us, flats vs = some us ∧ us.length = xs.length
  | [], _, e => by cases e; exact ⟨[], rfl, rfl⟩
  | x :: xs, _, e => by
    unfold Sa.evs at e
    split at e
    · rename_i v vs e1 e2
      cases e
      obtain ⟨u, h1⟩ := sa_flat e1
      obtain ⟨us, h2, h3⟩ := sas_flat e2
      refine ⟨u :: us, ?_, by rw [List.length_cons, List.length_cons, h3]⟩
      unfold flats
      rw [h1, h2]
    · cases e
variable {a : Addr} {oe : Obj} {pn : List (Addr × Obj)} {i c : Nat}
/-- an item of a suite -/
theorem sa_sound (C : SC T G F N nn L sc X W) (hi : nameAt N sc i = true) (hc : c < G.sub.length) (hz : Zc (.ref (T.adr c)) none oe) (hf : ∃ vs, oe.data = .fields vs) : ∀ (x : Sa), Sa.wf G sc x = true →
    PE (X.suite a ((a, oe) :: pn)) (x.emb G N i) (fun σ H Q => σ[i]? = some (some (.ref a)) ∧ ∃ v u, x.ev G c = some v ∧ v.flat = some u ∧ Q u H)
  | .bl b j p, _ => PE.imp pe_bl (by rintro σ H Q ⟨_, v, u, e1, e2, q⟩; cases e1; cases e2; exact q)
  | .int b j p, _ => PE.imp pe_int (by rintro σ H Q ⟨_, v, u, e1, e2, q⟩; cases e1; cases e2; exact q)
  | .str b j p, _ => PE.imp pe_str (by rintro σ H Q ⟨_, v, u, e1, e2, q⟩; cases e1; cases e2; exact q)
  | .non j p, _ => PE.imp pe_non (by rintro σ H Q ⟨_, v, u, e1, e2, q⟩; cases e1; cases e2; exact q)
  | .isE d qn qe qc q, w => by
    unfold Sa.wf excB at w
    simp only [Bool.and_eq_true] at w
    obtain ⟨⟨w1, w2⟩, w3⟩ := w
    have K := C.e.c.K
    obtain ⟨c1, c2, c3, c4, _⟩ := C.x.cls c hc
    obtain ⟨d1, d2, d3, _⟩ := C.x.cls d (of_decide_eq_true w1)
    unfold nameAt at hi
    cases hq : N[i]? with
    | none => rw [hq] at hi; cases hi
    | some nm =>
      rw [hq] at hi
      obtain ⟨v1, v2, v3⟩ := visB_vis hi
      have en : N.getD i "" = nm := by rw [List.getD_eq_getElem?_getD, hq]; rfl
      unfold Sa.emb
      rw [en]
      have pv : PE (X.suite a ((a, oe) :: pn)) (.Name nm qe) (tVar i) := pe_var (by show X.N[i]? = _; rw [C.e.c.eN]; exact hq) (by show Vis X.env.scope nm; rw [C.e.c.sc]; exact v1) v2 v3
      have gl : ∀ {x : Str}, glB sc x = true → Gl (X.suite a ((a, oe) :: pn)) x := fun {x} h => C.e.gl h
      have pc : PE (X.suite a ((a, oe) :: pn)) (.Name (G.cn.getD d "") qc) (tC (.ref (T.adr d))) := pe_glob (v := .ref (T.adr d)) (gl w2) d1 rfl d3
      refine PE.imp (pe_callB (call_isE (X := X) (a := a) (pn := pn) (by rw [K]; exact c4) hz hf) (gl w3) (C.e.c.top.bi _ (by decide)) PyProof.Rows.boot_isinstance (pa_cons pv (pa_cons pc pa_nil rfl) rfl) (by decide) (by decide) rfl rfl) ?_
      rintro σ H Q ⟨hs, v, u, e1, e2, q⟩
      have e' : (subOf G c d).map PV.bl = some v := e1
      cases qs : subOf G c d with
      | none => rw [qs] at e'; cases e'
      | some b =>
        rw [qs] at e'
        cases e'
        cases e2
        exact ⟨.ref a, hs, .ref (T.adr d), .ref (T.adr d), b, rfl, fun u r => r, by show PySem.W.kitOne X.K _ _ = _; rw [K]; exact (C.x.sub c d b qs).2.2, q⟩
theorem sas_sound (C : SC T G F N nn L sc X W) (hi : nameAt N sc i = true) (hc : c < G.sub.length) (hz : Zc (.ref (T.adr c)) none oe) (hf : ∃ vs, oe.data = .fields vs) : ∀ (xs : List Sa), (xs.all (Sa.wf G sc)) = true →
    PA (X.suite a ((a, oe) :: pn)) (xs.map fun x => x.emb G N i) (fun σ H Q => σ[i]? = some (some (.ref a)) ∧ ∃ vs us, Sa.evs G c xs = some vs ∧ flats vs = some us ∧ Q us H)
  | [], _ => PA.imp pa_nil (by rintro σ H Q ⟨_, v, u, e1, e2, q⟩; cases e1; cases e2; exact q)
  | x :: xs, w => by
    rw [List.all_cons, Bool.and_eq_true] at w
    have hs : ∀ (es : List Expr) (env : Env), starEach (x.emb G N i :: es) env = (false, eval (x.emb G N i) env) :: starEach es env := fun es env => by cases x <;> rfl
    refine PA.imp (pa_cons (sa_sound C hi hc hz hf x w.1) (sas_sound C hi hc hz hf xs w.2) (hs _ _)) ?_
    rintro σ H Q ⟨hq, vs, us, e1, e2, q⟩
    unfold Sa.evs at e1
    split at e1
    · rename_i v vs' f1 f2
      cases e1
      unfold flats at e2
      split at e2
      · rename_i u us' g1 g2
        cases e2
        exact ⟨hq, v, u, f1, g1, hq, vs', us', f2, g2, q⟩
      · cases e2
    · cases e1
def kpI (kp : Nat → Bool) (i : Nat) : Nat → Bool := fun k => kp k || k == i
/-- a suite's reading -/
def suR (T : CTab) (G : Prg) (kp : Nat → Bool) (a : Addr) (i c : Nat) (m : DEnv → RS) : TS := fun D σ H => σ[i]? = some (some (.ref a)) ∧ rdS T WF (kpI kp i) m D σ H
theorem kpI_f {kp : Nat → Bool} {i j : Nat} (h : kp j = false) (hj : (j == i) = false) : kpI kp i j = false := by unfold kpI; rw [h, hj]; rfl
theorem stK_of {kpl : List Bool} {j : Nat} (h : stK N kpl sc j = true) : stAt N sc j = true ∧ kpl.getD j false = false := by
  unfold stK at h
  rw [Bool.and_eq_true] at h
  exact ⟨h.1, by simpa using h.2⟩
theorem su_sound (C : SC T G F N nn L sc X W) (hi : nameAt N sc i = true) (hc : c < G.sub.length) (hz : Zc (.ref (T.adr c)) none oe) (hf : ∃ vs, oe.data = .fields vs) : ∀ (s : Su), Su.wf G N kpl sc i s = true →
    PS (X.suite a ((a, oe) :: pn)) (s.emb G N i) (suR T G (fun i => kpl.getD i false) a i c (fun env => s.ev G c env)) := by
  intro s w
  have slot : ∀ {j : Nat}, stAt N sc j = true → ∃ x, N[j]? = some x ∧ N.getD j "" = x ∧ Loc sc x := fun {j} h => by
    unfold stAt at h
    cases hq : N[j]? with
    | none => rw [hq] at h; cases h
    | some x =>
      rw [hq] at h
      exact ⟨x, rfl, by rw [List.getD_eq_getElem?_getD, hq]; rfl, stB_loc h⟩
  cases s with
  | lst j xs pl pt p =>
    unfold Su.wf at w
    simp only [Bool.and_eq_true] at w
    obtain ⟨⟨⟨w1, w2⟩, w3⟩, w4⟩ := w
    obtain ⟨k1, k2⟩ := stK_of w1
    have hji : (j == i) = false := by simpa using w3
    obtain ⟨x, q1, q2, q3⟩ := slot k1
    show PS _ (.Assign [.Name (N.getD j "") pt] (.List (xs.map fun x => x.emb G N i) pl) p) _
    rw [q2]
    refine ⟨fun pins s σ H D I h => (ps_set (X := X.suite a ((a, oe) :: pn)) (i := j) (by show X.N.Nodup; rw [C.e.c.eN]; exact C.e.c.nd) (by show X.N[j]? = _; rw [C.e.c.eN]; exact q1) (by show Loc X.env.scope x; rw [C.e.c.sc]; exact q3) (pe_lst (sas_sound C hi hc hz hf xs w2)) rfl (.inl (C.fn x))).run pins s σ H D I ?_⟩
    obtain ⟨hs, Hf, env, O, S, r⟩ := h
    dsimp only at r
    unfold Su.ev at r
    dsimp only at r
    cases ev : Sa.evs G c xs with
    | none => rw [ev] at r; exact r.elim
    | some vs =>
      rw [ev] at r
      obtain ⟨us, f1, f2⟩ := sas_flat ev
      have hlen : us.length ≤ sizeLine := by
        rw [f2]
        have h1 := of_decide_eq_true w4
        have h2 : (1000 : Nat) ≤ sizeLine := by decide
        omega
      refine ⟨hs, vs, us, rfl, f1, hlen, fun q hq => ?_⟩
      have su := same_upd (o := .lst us) hq
      have S2 := S.grow (Same.refl _) su (S.sub.trans su) fun _ h => .inl h
      have hne : ∀ b ∈ O, b ≠ q := fun b hb e => by
        obtain ⟨o, z⟩ := S.rep.there b hb
        rw [e, hq] at z; cases z
      obtain ⟨O2, S3, s3⟩ := S2.put (i := j) (x := .lst true vs) (v := .ref q) (Ox := [q]) (.lstO upd_same (flats_rep f1)) (ndm S2.nd (by simp) fun b x y => hne b x (by simpa using y)) fun b hb => by
        have e : b = q := by simpa using hb
        subst e
        exact Same.none' S.sub hq
      refine r _ _ Hf O2 S3 (Keep.set (kpI_f k2 hji)) ⟨Same.refl _, fun b o _ e => su b o e, fun b hb => (s3 b hb).imp id fun z => ?_, fun _ h => .inl h⟩
      have e : b = q := by simpa using z
      exact e ▸ hq
  | one j y pt p =>
    unfold Su.wf at w
    simp only [Bool.and_eq_true] at w
    obtain ⟨⟨w1, w2⟩, w3⟩ := w
    obtain ⟨k1, k2⟩ := stK_of w1
    have hji : (j == i) = false := by simpa using w3
    obtain ⟨x, q1, q2, q3⟩ := slot k1
    show PS _ (.Assign [.Name (N.getD j "") pt] (y.emb G N i) p) _
    rw [q2]
    have hsw : swapsWith (y.emb G N i) (some (.Name x pt)) p.line X.env = pure false := by cases y <;> rfl
    refine ⟨fun pins s σ H D I h => (ps_set (X := X.suite a ((a, oe) :: pn)) (i := j) (by show X.N.Nodup; rw [C.e.c.eN]; exact C.e.c.nd) (by show X.N[j]? = _; rw [C.e.c.eN]; exact q1) (by show Loc X.env.scope x; rw [C.e.c.sc]; exact q3) (sa_sound C hi hc hz hf y w2) hsw (.inl (C.fn x))).run pins s σ H D I ?_⟩
    obtain ⟨hs, Hf, env, O, S, r⟩ := h
    dsimp only at r
    unfold Su.ev at r
    dsimp only at r
    cases ev : y.ev G c with
    | none => rw [ev] at r; exact r.elim
    | some v =>
      rw [ev] at r
      obtain ⟨u, f1⟩ := sa_flat ev
      refine ⟨hs, v, u, rfl, f1, ?_⟩
      obtain ⟨O2, S3, s3⟩ := S.put (i := j) (flat_rep (T := T) (Hf := Hf) (H := H) f1) (nd0 S.nd) (fun _ h => nomatch h)
      exact r _ _ Hf O2 S3 (Keep.set (kpI_f k2 hji)) ((Nxt.refl _ _ _).weak fun b hb => (s3 b hb).elim id fun h => nomatch h)
theorem sus_sound (C : SC T G F N nn L sc X W) (hi : nameAt N sc i = true) (hc : c < G.sub.length) (hz : Zc (.ref (T.adr c)) none oe) (hf : ∃ vs, oe.data = .fields vs) : ∀ (ss : List Su), (ss.all (Su.wf G N kpl sc i)) = true →
    PSs (X.suite a ((a, oe) :: pn)) (ss.map fun s => s.emb G N i) (suR T G (fun i => kpl.getD i false) a i c (fun env => Su.evs G c ss env))
  | [], _ => ⟨fun pins s σ H D I h => pss_nil.run pins s σ H D I (s_nil h.2)⟩
  | s :: ss, w => by
    rw [List.all_cons, Bool.and_eq_true] at w
    have z := pss_cons (su_sound (kpl := kpl) (a := a) (pn := pn) C hi hc hz hf s w.1) (sus_sound C hi hc hz hf ss w.2)
    refine ⟨fun pins st σ H D I h => z.run pins st σ H D I ⟨h.1, ?_⟩⟩
    obtain ⟨Hf, env, O, S, r⟩ := s_seq (rdS_congr (m := fun env => Su.evs G c (s :: ss) env) (fun env => by (conv => lhs; unfold Su.evs) <;> rfl) h.2)
    refine ⟨Hf, env, O, S, ?_⟩
    have hs := h.1
    dsimp only at r ⊢
    cases e : s.ev G c env with
    | nx env1 =>
      rw [e] at r
      exact fun σ' H' Hf' O' S' k n => ⟨(k i (by unfold kpI; simp)).trans hs, r σ' H' Hf' O' S' k n⟩
    | bk e1 => rw [e] at r; exact r
    | ct e1 => rw [e] at r; exact r
    | rt v e1 => rw [e] at r; exact r
    | exc c e1 => rw [e] at r; exact r
    | bad => rw [e] at r; exact r
end
end DN

set_option Elab.async false
set_option linter.all false
set_option maxRecDepth 100000
set_option maxHeartbeats 4000000
/-! DEN, part 24: every statement is sound. -/
namespace DN
open PySem PySem.Spec PyProof.Rows L2

section
variable {T : CTab} {G : Prg} {F : Fns} {N : List Str} {nn L fuel : Nat} {sc : Scope} {X : Cx} {W : WN} {kpl : List Bool}
theorem PS.imp {X : Cx} {s : Stmt} {t t' : TS} (h : PS X s t) (k : ∀ D σ H, t' D σ H → t D σ H) : PS X s t' := ⟨fun pins st σ H D I hw => h.run pins st σ H D I (k D σ H hw)⟩
theorem PSs.imp {X : Cx} {s : List Stmt} {t t' : TS} (h : PSs X s t) (k : ∀ D σ H, t' D σ H → t D σ H) : PSs X s t' := ⟨fun pins st σ H D I hw => h.run pins st σ H D I (k D σ H hw)⟩
theorem SC.tr (C : SC T G F N nn L sc X W) {pn : List (Addr × Obj)} {xe : Value → Shared → Prop} {W' : WN} (tk : Takes (X.tr pn xe) (WXd T W')) (po : PassesOwn (model X.prog X.w) X.A X.env xe) : SC T G F N nn L sc (X.tr pn xe) W' := by
  refine ⟨⟨⟨C.e.c.eN, C.e.c.nd, C.e.c.sc, C.e.c.K, C.e.c.calm, C.e.c.top, C.e.c.un⟩, C.e.so, fun σ => ?_, C.e.room, C.e.fn, C.e.top⟩, tk, po, C.stk, C.fr, C.kind, C.fn, C.x⟩
  exact passAt tk σ
theorem excB_of {c : Nat} (h : excB G sc c = true) : c < G.sub.length ∧ glB sc (G.cn.getD c "") = true := by
  unfold excB at h
  rw [Bool.and_eq_true] at h
  exact ⟨of_decide_eq_true h.1, h.2⟩
theorem nameAt_loc {i : Nat} (h : locB N sc i = true) : ∃ x, N[i]? = some x ∧ N.getD i "" = x ∧ sc.names.lookup x = some .local := by
  unfold locB at h
  cases hq : N[i]? with
  | none => rw [hq] at h; cases h
  | some x =>
    rw [hq] at h
    exact ⟨x, rfl, by rw [List.getD_eq_getElem?_getD, hq]; rfl, by simpa using h⟩
theorem EnvR.clr {e : DEnv} {s : St} {O : List Addr} {Hf H : Hp} (r : EnvR T Hf H e s O) (k : Nat) (v : Option V) (nd : O.Nodup) : ∃ O', EnvR T Hf H (e.set k none) (s.set k v) O' ∧ O'.Nodup ∧ ∀ a ∈ O', a ∈ O := r.clear k v nd
theorem ST.clr {σ : St} {H Hf : Hp} {env : DEnv} {O : List Addr} (S : ST T σ H Hf env O) (k : Nat) (v : Option V) : ∃ O', ST T (σ.set k v) H Hf (env.set k none) O' ∧ ∀ a ∈ O', a ∈ O := by
  obtain ⟨O', r, n, s⟩ := S.rep.clear k v S.nd
  exact ⟨O', ⟨r, n, S.sub, fun a ha => S.dis a (s a ha)⟩, s⟩
theorem s_try (C : SC T G F N nn L sc X W) {mb : DEnv → RS} {body : List Stmt} {c i : Nat} {su0 : Su} {su : List Su} {np ph p : Pos} (hc : excB G sc c = true) (hi : locB N sc i = true) (hv : nameAt N sc i = true) (hk : kpl.getD i false = false)
    (h0 : Su.wf G N kpl sc i su0 = true) (hs : su.all (Su.wf G N kpl sc i) = true) (hb : ∀ (X' : Cx) (W' : WN), SC T G F N nn L sc X' W' → PSs X' body (rdS T W' (fun i => kpl.getD i false) mb)) :
    PS X (.Try body [.ExceptHandler (some (.Name (G.cn.getD c "") np)) (some (N.getD i "")) (su0.emb G N i :: su.map fun s => s.emb G N i) ph] [] [] p) (rdS T W (fun i => kpl.getD i false) fun env => match mb env with
      | .exc d env1 => match subOf G d c with
        | some true => if decide (i < env1.length) then match Su.evs G d (su0 :: su) (env1.set i none) with
            | .nx env2 => .nx (env2.set i none)
            | _ => .bad
          else .bad
        | some false => .exc d env1
        | none => .bad
      | r => r) := by
  obtain ⟨c0, c1⟩ := excB_of hc
  obtain ⟨x1, x2, x3, _⟩ := C.x.cls c c0
  obtain ⟨nm, n1, n2, n3⟩ := nameAt_loc hi
  have K := C.e.c.K
  rw [n2]
  have z := ps_try_as (X := X) (x := G.cn.getD c "") (n := nm) (c := .ref (T.adr c)) (i := i) (np := np) (pos := p) (pos' := ph) (body := body) (b₀ := su0.emb G N i) (suite := su.map fun s => s.emb G N i) (Wout := WXd T W)
    (tb := fun W' => rdS T (fun d σ H => W' (.ref (T.adr d)) none σ H) (fun i => kpl.getD i false) mb)
    (ts := fun a cls d => fun D σ H => ∃ c', c' < G.sub.length ∧ cls = .ref (T.adr c') ∧ d = none ∧ suR T G (fun i => kpl.getD i false) a i c' (fun env => Su.evs G c' (su0 :: su) env) D σ H)
    C.stk C.fr (by rw [C.e.c.eN]; exact C.e.c.nd) (by rw [C.e.c.eN]; exact n1) (by unfold Env.kindOf; rw [C.e.c.sc]; exact n3) ⟨C.e.gl c1, x3, .inl x1⟩ C.tk
    (fun W' pn xe tk po => hb _ _ (C.tr (tk.imp fun cls d σ H ⟨c', e1, e2, w⟩ => by subst e1 e2; exact w) po))
    (fun a oe cls d pn hz hf => ⟨fun pins s σ H D I ⟨c', l', e1, e2, h⟩ => by
      subst e1 e2
      have zz := sus_sound (kpl := kpl) (a := a) (pn := pn) (i := i) (c := c') C hv l' hz hf (su0 :: su) (by rw [List.all_cons, h0, hs]; rfl)
      exact zz.run pins s σ H D I h⟩)
  refine PS.imp z fun D σ H h => ?_
  obtain ⟨Hf, env, O, S, q⟩ := h
  refine ⟨Hf, env, O, S, ?_⟩
  dsimp only at q
  cases e : mb env with
  | nx env1 => rw [e] at q; exact q
  | bk env1 => rw [e] at q; exact q
  | ct env1 => rw [e] at q; exact q
  | rt v env1 => rw [e] at q; exact q
  | bad => rw [e] at q; exact q
  | exc d env1 =>
    rw [e] at q
    dsimp only at q
    intro σ' H' Hf' O' S' k n
    cases es : subOf G d c with
    | none => rw [es] at q; exact q.elim
    | some b =>
      rw [es] at q
      obtain ⟨d0, d1, d2⟩ := C.x.sub d c b es
      refine ⟨b, by rw [K]; exact d1, fun hb a ha => ?_, fun hb => ?_⟩
      · subst hb
        dsimp only at q
        obtain ⟨O2, S2, s2⟩ := S'.clr i (some (.ref a))
        have hl : i < env1.length := by
          by_cases hl : i < env1.length
          · exact hl
          · rw [if_neg (by simpa using hl)] at q; exact q.elim
        rw [if_pos (decide_eq_true hl)] at q
        have hil : i < σ'.length := by rw [← S'.rep.len]; exact hl
        refine ⟨d, d0, rfl, rfl, by rw [List.getElem?_set_self hil], Hf', _, O2, S2, ?_⟩
        dsimp only
        cases ev : Su.evs G d (su0 :: su) (env1.set i none) with
        | nx env2 =>
          rw [ev] at q
          intro σ3 H3 Hf3 O3 S3 k3 n3'
          obtain ⟨O4, S4, s4⟩ := S3.clr i none
          refine q _ H3 Hf3 O4 S4 (fun j hj => ?_) ((n.trans ((Nxt.refl H' Hf' O').weak s2)).trans (n3'.weak s4))
          have hj' : kpl.getD j false = true := hj
          have hji : j ≠ i := fun z => by rw [z, hk] at hj'; cases hj'
          rw [List.getElem?_set_ne (Ne.symm hji), k3 j (by unfold kpI; dsimp only; rw [hj']; rfl), List.getElem?_set_ne (Ne.symm hji)]
          exact k j hj
        | bk e1 => rw [ev] at q; exact q.elim
        | ct e1 => rw [ev] at q; exact q.elim
        | rt v e1 => rw [ev] at q; exact q.elim
        | exc c e1 => rw [ev] at q; exact q.elim
        | bad => rw [ev] at q; exact q.elim
      · subst hb
        exact ⟨d, rfl, rfl, q σ' H' Hf' O' S' k n⟩
end
end DN

set_option Elab.async false
set_option linter.all false
set_option maxRecDepth 100000
set_option maxHeartbeats 4000000
/-! DEN, part 25: every statement is sound (the joining). -/
namespace DN
open PySem PySem.Spec PyProof.Rows L2

section
variable {T : CTab} {G : Prg} {F : Fns} {N : List Str} {nn L fuel : Nat} {sc : Scope} {X : Cx} {W : WN} {kpl : List Bool}
theorem plain_sw {e : Expr} {t : Option Expr} {l : Nat} {env : Env} (h : plainHd e = true) : swapsWith e t l env = pure false := by
  cases e <;> first | rfl | cases h
theorem plain_sw1 {e t : Expr} {l : Nat} {env : Env} (h : plainHd e = true) : swapsWithSole [t] e l env = pure false := plain_sw h
theorem plainE (e : E) (h : e.isLc = false) : plainHd (e.emb G N) = true := by
  cases e with
  | q a => unfold E.emb; exact a.plain G N
  | lc e tg it t sc own p => cases h
  | _ => unfold E.emb; rfl
theorem not_b {b : Bool} (h : (!b) = true) : b = false := by cases b <;> first | rfl | cases h
theorem slot_of {i : Nat} (h : stAt N sc i = true) : ∃ x, N[i]? = some x ∧ N.getD i "" = x ∧ Loc sc x := by
  unfold stAt at h
  cases hq : N[i]? with
  | none => rw [hq] at h; cases h
  | some x =>
    rw [hq] at h
    exact ⟨x, rfl, by rw [List.getD_eq_getElem?_getD, hq]; rfl, stB_loc h⟩
theorem set_sound (C : SC T G F N nn L sc X W) {i : Nat} {pt p : Pos} (hi : stAt N sc i = true) : ∀ (e : E), e.wf G N nn L sc sc = true → ∃ t, PS X (.Assign [.Name (N.getD i "") pt] (e.emb G N) p) (tAsg t (gName i)) ∧ ∀ σ H Q, rd T (relV T) W (e.ev G F) σ H Q → t σ H Q := by
  intro e w
  obtain ⟨x, q1, q2, q3⟩ := slot_of hi
  have hN : X.N.Nodup := by rw [C.e.c.eN]; exact C.e.c.nd
  have hx : X.N[i]? = some x := by rw [C.e.c.eN]; exact q1
  have hl : Loc X.env.scope x := by rw [C.e.c.sc]; exact q3
  rw [q2]
  have plain : swapsWith (e.emb G N) (some (.Name x pt)) p.line X.env = pure false → ∃ t, PS X (.Assign [.Name x pt] (e.emb G N) p) (tAsg t (gName i)) ∧ ∀ σ H Q, rd T (relV T) W (e.ev G F) σ H Q → t σ H Q := fun hs =>
    ⟨_, ps_set (i := i) hN hx hl (E.sound e C.e w) hs (.inl (C.fn x)), fun _ _ _ h => h⟩
  cases e with
  | lc el tg it t scope own lp =>
    have key : swapsWith ((E.lc el tg it t scope own lp).emb G N) (some (.Name x pt)) p.line X.env = pure (X.env.blockKind == .function && X.env.kindOf x == some .local && pt.line == lp.line && !(scope.names.any fun (n, k) => n == x && (k == .local || k == .cell))) := by
      unfold E.emb
      rfl
    cases hb : (X.env.blockKind == .function && X.env.kindOf x == some .local && pt.line == lp.line && !(scope.names.any fun (n, k) => n == x && (k == .local || k == .cell))) with
    | false => rw [hb] at key; exact plain key
    | true =>
      rw [hb] at key
      have hloc : X.env.scope.names.lookup x = some .local := by
        simp only [Bool.and_eq_true] at hb
        have z := hb.1.1.2
        unfold Env.kindOf at z
        simpa using z
      unfold E.wf at w
      simp only [Bool.and_eq_true] at w
      obtain ⟨⟨⟨⟨⟨⟨⟨w1, w2⟩, w3⟩, w4⟩, w5⟩, w6⟩, w7⟩, w8⟩ := w
      have KK : ∀ (s : Shared) (H : Hp) (D : Addr) (cl : List (Str × Addr)) (fp : List Addr), EC T G F N nn L (relS scope sc) scope (X.blk s H scope (compEnvC scope cl D X.env) fp) WF := fun s H D cl fp => C.e.blk s H D cl fp
      unfold E.emb at key ⊢
      refine ⟨_, ps_setLc (i := i) (g := gTg X.K tg) C.e.c.calm hN hx hloc key (It.sound it C.e tg w1) (by rw [C.e.c.eN, C.e.c.sc]; exact blkB_ok w2) (fun s H D cl fp => pg_tg (KK s H D cl fp).c (KK s H D cl fp).so tg w3) (fun s H D cl fp => Ts.soundL t (KK s H D cl fp) w7 w8) (fun s H D cl fp => E.sound el (KK s H D cl fp) w6) (hdA_fold it.hd), fun σ H Q h => ?_⟩
      exact rd_lc (mi := it.ev G F) (tyN w5) (fun i hi => by simpa using List.all_eq_true.mp w4 i hi) (rd_congr (fun env => by (conv => lhs; unfold E.ev) <;> rfl) h)
  | _ => exact plain (plain_sw (plainE _ rfl))
theorem As1_few {e : Expr} {cpos : Pos} {env : Env} (h : hdA e = true) : ((backTo cpos (starEach [e] env)).all (fun x => !x.1) && (backToKw cpos (keywordEach [] env)).all (fun x => x.1.isSome)
      && decide ([e].length + ([] : List Keyword).length + (if ([] : List Keyword).isEmpty then 0 else 1) < 30)) = true := by
  rw [hdA_star h]
  rfl

mutual
theorem S.sound : ∀ (s : S) {X : Cx} {W : WN}, SC T G F N nn L sc X W → s.wf G N nn L kpl sc = true → PS X (s.emb G N) (rdS T W (fun i => kpl.getD i false) (s.ev G F fuel))
  | .set i frz e pt p, _, _, C, w => by
    unfold S.wf at w
    obtain ⟨k1, k2⟩ := stK_of (wfs w).1
    obtain ⟨t, z, k⟩ := set_sound C (pt := pt) (p := p) k1 e (wfs w).2
    unfold S.emb
    exact PS.imp z fun D σ H h => s_set (m := e.ev G F) (frz := frz) k2 k (rdS_congr (fun env => by (conv => lhs; unfold S.ev) <;> rfl) h)
  | .setT is k e pt p, X, _, C, w => by
    unfold S.wf at w
    simp only [Bool.and_eq_true] at w
    obtain ⟨⟨⟨w1, w2⟩, w3⟩, w4⟩ := w
    have ww : (Tg.tup is k pt).wf N sc = true := by
      show (is.all fun x => stAt N sc x.1) = true
      refine List.all_eq_true.mpr fun x hx => ?_
      exact (stK_of (List.all_eq_true.mp w1 x hx)).1
    have hsw : swappedStores [.Tuple (is.map fun x => .Name (N.getD x.1 "") x.2) k pt] (e.emb G N) X.env = pure none := by
      cases e with
      | tup es k' p' => cases w4
      | q a =>
        unfold E.emb
        cases a with
        | rd b => rcases b.head G N with ⟨_, _, z⟩ | ⟨_, _, _, z⟩ | ⟨_, _, _, z⟩ <;> (unfold Qe.emb; rw [z]; rfl)
        | _ => unfold Qe.emb; rfl
      | _ => unfold E.emb; rfl
    unfold S.emb
    exact PS.imp (ps_asg (E.sound e C.e w2) (pg_tg C.e.c C.e.so (.tup is k pt) ww) (plain_sw1 (plainE e (not_b w3))) hsw rfl) fun D σ H h => s_setT (fun i hi => by
      obtain ⟨x, hx, ex⟩ := List.mem_map.mp hi
      have z := (stK_of (List.all_eq_true.mp w1 x hx)).2
      rw [ex] at z
      exact z) (rdS_congr (fun env => by (conv => lhs; unfold S.ev) <;> rfl) h)
  | .setIx b k e pt p, X, _, C, w => by
    unfold S.wf at w
    simp only [Bool.and_eq_true] at w
    obtain ⟨⟨⟨w1, w2⟩, w3⟩, w4⟩ := w
    have ha : ∀ v, assign (.Subscript (b.emb G N) (k.emb G N) pt) X.env v = (do
      let ov ← holding [v] (eval (b.emb G N) X.env)
      let iv ← holding [v, ov] (eval (k.emb G N) X.env)
      standAt pt
      holding [v, ov, iv] (setItem ov iv v)
      release [v, ov, iv] []) := fun v => by
      have hh := k.hd G N
      generalize k.emb G N = ke at hh ⊢
      cases ke <;> first | rfl | cases hh
    unfold S.emb
    exact PS.imp (ps_asg (E.sound e C.e w3) (pg_sub (P.sound C.e.c b w1) (Qe.sound C.e.c k w2) set_list ha) (plain_sw1 (plainE e (not_b w4))) rfl rfl) fun D σ H h => s_setIx (rdS_congr (fun env => by (conv => lhs; unfold S.ev) <;> rfl) h)
  | .aug i o e pt p, X, _, C, w => by
    unfold S.wf at w
    simp only [Bool.and_eq_true] at w
    obtain ⟨⟨w1, w2⟩, w3⟩ := w
    obtain ⟨k1, k2⟩ := stK_of w1
    obtain ⟨x, q1, q2, q3⟩ := slot_of k1
    unfold S.emb
    rw [q2]
    exact PS.imp (ps_aug (by rw [C.e.c.eN]; exact C.e.c.nd) (by rw [C.e.c.eN]; exact q1) (by rw [C.e.c.sc]; exact q3) (E.sound e C.e w2) (ip_P w3) (.inl (C.fn x))) fun D σ H h => s_aug k2 (rdS_congr (fun env => by (conv => lhs; unfold S.ev) <;> rfl) h)
  | .setFld b f e pt p, X, _, C, w => by
    unfold S.wf at w
    simp only [Bool.and_eq_true] at w
    obtain ⟨⟨⟨w1, w2⟩, w3⟩, w4⟩ := w
    unfold S.emb
    exact PS.imp (ps_fld (P.sound C.e.c b w1) (E.sound e C.e w3) (plain_sw (plainE e (not_b w4)))) fun D σ H h => s_setFld C.e.c.top C.e.c.K C.x.few (rdS_congr (fun env => by (conv => lhs; unfold S.ev) <;> rfl) h)
  | .appV i e qi qa qc p, X, _, C, w => by
    unfold S.wf at w
    simp only [Bool.and_eq_true] at w
    obtain ⟨⟨w1, w2⟩, w3⟩ := w
    have hs := hdA_star (es := []) (env := X.env) (e.hd G N)
    unfold S.emb
    exact PS.imp (ps_expr (pe_bm PySem.F.plainAttrs_list PySem.F.slot_list_append PySem.F.type_list_append mt_append (nameAt_var C.e.c w1 qi) (pa_cons (E.sound e C.e w2) pa_nil hs) rfl (As1_few (e.hd G N)) w3 hs rfl) rfl) fun D σ H h => s_appV (rdS_congr (fun env => by (conv => lhs; unfold S.ev) <;> rfl) h)
  | .appQ b k qa qc p, X, _, C, w => by
    unfold S.wf at w
    simp only [Bool.and_eq_true] at w
    obtain ⟨⟨w1, w2⟩, w3⟩ := w
    have hs := hdA_star (es := []) (env := X.env) (k.hd G N)
    unfold S.emb
    exact PS.imp (ps_expr (pe_bm PySem.F.plainAttrs_list PySem.F.slot_list_append PySem.F.type_list_append mt_append (P.sound C.e.c b w1) (pa_cons (Qe.sound C.e.c k w2) pa_nil hs) (attr_base (b.nocall G N)) (As1_few (k.hd G N)) w3 hs rfl) rfl) fun D σ H h => s_appQ (rdS_congr (fun env => by (conv => lhs; unfold S.ev) <;> rfl) h)
  | .appT b k1 k2 n pt qa qc p, X, _, C, w => by
    unfold S.wf at w
    simp only [Bool.and_eq_true] at w
    obtain ⟨⟨⟨w1, w2⟩, w3⟩, w4⟩ := w
    have h1 := hdA_star (es := [k2.emb G N]) (env := X.env) (k1.hd G N)
    have h2 := hdA_star (es := []) (env := X.env) (k2.hd G N)
    unfold S.emb
    exact PS.imp (ps_expr (pe_bm PySem.F.plainAttrs_list PySem.F.slot_list_append PySem.F.type_list_append mt_append (P.sound C.e.c b w1) (pa_cons (pe_tup (x1 := n) (pos := pt) (pa_cons (Qe.sound C.e.c k1 w2) (pa_cons (Qe.sound C.e.c k2 w3) pa_nil h2) h1)) pa_nil rfl) (attr_base (b.nocall G N)) (As1_few rfl) w4 rfl rfl) rfl) fun D σ H h => s_appT (rdS_congr (fun env => by (conv => lhs; unfold S.ev) <;> rfl) h)
  | .rev b qa qc p, X, _, C, w => by
    unfold S.wf at w
    unfold S.emb
    exact PS.imp (ps_expr (pe_bm0 PySem.F.plainAttrs_list PySem.F.slot_list_reverse PySem.F.type_list_reverse mt_reverse (P.sound C.e.c b (wfs w).1) (attr_base (b.nocall G N)) (wfs w).2) rfl) fun D σ H h => s_rev (rdS_congr (fun env => by (conv => lhs; unfold S.ev) <;> rfl) h)
  | .expr e p, X, _, C, w => by
    unfold S.wf at w
    unfold S.emb
    exact PS.imp (ps_expr (E.sound e C.e (wfs w).1) (plain_sw (plainE e (not_b (wfs w).2)))) fun D σ H h => s_expr (rdS_congr (fun env => by (conv => lhs; unfold S.ev) <;> rfl) h)
  | .ite t a b p, X, _, C, w => by
    unfold S.wf at w
    unfold S.emb
    exact PS.imp (ps_if (Tt.sound t C.e (wfs (wfs w).1).1) (Ss.sound a C (wfs (wfs w).1).2) (Ss.sound b C (wfs w).2)) fun D σ H h => s_ite (rdS_congr (fun env => by (conv => lhs; unfold S.ev) <;> rfl) h)
  | .forS tg it b p, X, _, C, w => by
    unfold S.wf at w
    simp only [Bool.and_eq_true] at w
    obtain ⟨⟨⟨w1, w2⟩, w3⟩, w4⟩ := w
    unfold S.emb
    exact PS.imp (ps_for C.po C.e.c.calm (It.sound it C.e tg w1) (pg_tg C.e.c C.e.so tg w2) (Ss.sound b C w4) (hdA_fold it.hd)) fun D σ H h => s_for (fun i hi => not_b (List.all_eq_true.mp w3 i hi)) (rdS_congr (fun env => by (conv => lhs; unfold S.ev) <;> rfl) h)
  | .whileS t b p, X, _, C, w => by
    unfold S.wf at w
    unfold S.emb
    exact PS.imp (ps_while C.po (Tt.sound t C.e (wfs w).1) (Ss.sound b C (wfs w).2)) fun D σ H h => s_while (fuel := fuel) (rdS_congr (fun env => by (conv => lhs; unfold S.ev) <;> rfl) h)
  | .ret e p, X, _, C, w => by
    unfold S.wf at w
    unfold S.emb
    exact PS.imp (ps_ret (E.sound e C.e w)) fun D σ H h => s_ret (rdS_congr (fun env => by (conv => lhs; unfold S.ev) <;> rfl) h)
  | .retN p, X, _, C, w => by
    unfold S.emb
    exact PS.imp ps_retN fun D σ H h => s_retN (rdS_congr (fun env => by (conv => lhs; unfold S.ev) <;> rfl) h)
  | .raise c m j pn pm pc p, X, _, C, w => by
    unfold S.wf at w
    unfold S.emb
    exact PS.imp (s_raise C (kp := fun i => kpl.getD i false) w) fun D σ H h => rdS_congr (fun env => by (conv => lhs; unfold S.ev) <;> rfl) h
  | .tryA b c i su0 su np ph p, X, _, C, w => by
    unfold S.wf at w
    simp only [Bool.and_eq_true] at w
    obtain ⟨⟨⟨⟨⟨w1, w2⟩, w3⟩, w4⟩, w5⟩, w6⟩ := w
    unfold S.emb
    exact PS.imp (s_try (mb := b.ev G F fuel) C w2 w3.1 w3.2 (not_b w4) w5 w6 fun X' W' C' => Ss.sound b C' w1) fun D σ H h => rdS_congr (fun env => by (conv => lhs; unfold S.ev) <;> rfl) h
  | .brk p, X, _, C, w => by
    unfold S.emb
    exact PS.imp ps_break fun D σ H h => s_brk (rdS_congr (fun env => by (conv => lhs; unfold S.ev) <;> rfl) h)
  | .cont p, X, _, C, w => by
    unfold S.emb
    exact PS.imp ps_continue fun D σ H h => s_cont (rdS_congr (fun env => by (conv => lhs; unfold S.ev) <;> rfl) h)
  | .pass p, X, _, C, w => by
    unfold S.emb
    exact PS.imp ps_pass fun D σ H h => s_nil (rdS_congr (fun env => by (conv => lhs; unfold S.ev) <;> rfl) h)
theorem Ss.sound : ∀ (ss : Ss) {X : Cx} {W : WN}, SC T G F N nn L sc X W → ss.wf G N nn L kpl sc = true → PSs X (ss.emb G N) (rdS T W (fun i => kpl.getD i false) (ss.ev G F fuel))
  | .nil, X, _, C, w => by
    unfold Ss.emb
    exact PSs.imp pss_nil fun D σ H h => s_nil (rdS_congr (fun env => by (conv => lhs; unfold Ss.ev) <;> rfl) h)
  | .cons s ss, X, _, C, w => by
    unfold Ss.wf at w
    unfold Ss.emb
    exact PSs.imp (pss_cons (S.sound s C (wfs w).1) (Ss.sound ss C (wfs w).2)) fun D σ H h => s_seq (rdS_congr (fun env => by (conv => lhs; unfold Ss.ev) <;> rfl) h)
end
end
end DN

set_option Elab.async false
set_option linter.all false
set_option maxRecDepth 100000
set_option maxHeartbeats 4000000
/-! DEN, part 26: defs hold their promises. -/
namespace DN
open PySem PySem.Spec PyProof.Rows L2

section
variable {T : CTab} {Hf H : Hp}
theorem EnvR.none_ : ∀ k : Nat, EnvR T Hf H (List.replicate k none) (List.replicate k none) []
  | 0 => .nil
  | k + 1 => .non none (EnvR.none_ k)
theorem EnvR.start : ∀ {xs : List PV} {vs : List V} {O : List Addr} {k : Nat}, Reps T Hf H xs vs O → EnvR T Hf H (xs.map some ++ List.replicate k none) (vs.map some ++ List.replicate k none) O
  | _, _, _, k, .nil => EnvR.none_ k
  | _, _, _, k, .cons h r => .som h (EnvR.start r)
theorem parL_rep : ∀ {kp : List Bool} {env : DEnv} {σ : St} {O : List Addr} {vs : List V}, EnvR T Hf H env σ O → (∀ i v, kp.getD i false = true → vs[i]? = some v → σ[i]? = some (some v)) → kp.length = vs.length → O.Nodup →
    ∃ O', EnvR T Hf H (parL kp env) (vs.map some) O' ∧ O'.Nodup ∧ ∀ a ∈ O', a ∈ O
  | [], _, _, _, [], r, h, l, nd => ⟨[], .nil, .nil, fun _ h => nomatch h⟩
  | [], _, _, _, _ :: _, r, h, l, nd => nomatch l
  | _ :: _, _, _, _, [], r, h, l, nd => nomatch l
  | b :: kp, [], σ, O, v :: vs, r, h, l, nd => by
    cases r
    obtain ⟨O', r', n', s'⟩ := parL_rep (kp := kp) (vs := vs) .nil (fun i w h1 h2 => by
      have z := h (i + 1) w h1 h2
      cases z) (by simpa using l) .nil
    exact ⟨O', .non (some v) r', n', s'⟩
  | b :: kp, e :: env, σ, O, v :: vs, r, h, l, nd => by
    have hh : ∀ {s0 : Option V} {σ' : St}, σ = s0 :: σ' → ∀ i w, kp.getD i false = true → vs[i]? = some w → σ'[i]? = some (some w) := fun {s0 σ'} e i w h1 h2 => by
      have z := h (i + 1) w h1 h2
      rw [e] at z
      exact z
    cases r with
    | non s0 r =>
      obtain ⟨O', r', n', s'⟩ := parL_rep r (hh rfl) (by simpa using l) nd
      refine ⟨O', ?_, n', s'⟩
      have e : parL (b :: kp) (none :: env) = none :: parL kp env := by
        show (if b then none else none) :: parL kp env = _
        cases b <;> rfl
      rw [e]
      exact .non (some v) r'
    | som hx r =>
      obtain ⟨O', r', n', s'⟩ := parL_rep r (hh rfl) (by simpa using l) (ndr nd)
      cases b with
      | false => exact ⟨O', .non (some v) r', n', fun a ha => List.mem_append_right _ (s' a ha)⟩
      | true =>
        have z := h 0 v rfl rfl
        cases z
        refine ⟨_, .som hx r', ndm (ndl nd) n' fun a x y => ndx nd x (s' a y), fun a ha => ?_⟩
        exact List.mem_append.mpr ((List.mem_append.mp ha).imp id (s' a))
end

/-- how a def is proved -/
def FnRule (P : Program) (w : World) (K : PySem.W.Frag) (mg : Str → Option Value) (base : Heap) (fa : Addr) (fd : FuncData) (N ps : List Str) (scope : Scope) (qual : Str) (body : List Stmt) : Prop :=
  FnScope N ps scope ∧ ∀ (k : Nat) (sp : Sp), (∀ vs H Q E, sp vs H Q E → vs.length = ps.length) →
    (∀ (cdv : Value) (A : Around) (outer : List Env) (s : Shared) (H : Hp) (vs : List V) (Q : VK) (E : XK), Room k (A.deeper (envOfC qual scope s.heap.objs.size fa cdv)) → sp vs H Q E →
      ∃ t, PSs (cxOf (L2.CX P w) P w K mg base N qual scope fa cdv A outer s H E) body t ∧ t { nx := fun _ H' => Q .non H', rt := Q } (start N vs) H) → FnOk P w K mg base (L2.CX P w) (k + 1) fa fd ps sp
theorem Fun.rule {P : Program} {w : World} {K : PySem.W.Frag} {mg : Str → Option Value} {base : Heap} {x qual : Str} {st : Stmt} {f : Addr} {fd : FuncData} {N ps : List Str} (F : Fun K x qual st f fd) (S : FnScope N ps (defScope st)) : FnRule P w K mg base f fd N ps (defScope st) qual (defBody st) :=
  ⟨S, fun k sp len hb => F.okX S len hb⟩
theorem FunD.rule {P : Program} {w : World} {K : PySem.W.Frag} {mg : Str → Option Value} {base : Heap} {x qual : Str} {params : Arguments} {body : List Stmt} {scope : Scope} {dvs : List V} {kws : List (Str × V)} {f : Addr} {fd : FuncData} {N ps : List Str}
    (F : FunD K x qual params body scope dvs kws f fd) (S : FnScope N ps scope) : FnRule P w K mg base f fd N ps scope qual body := ⟨S, fun k sp len hb => F.ok S len hb⟩
section
variable {P : Program} {w : World} {mg : Str → Option Value} {base : Heap} {T : CTab} {G : Prg} {F F' : Fns} {fuel nn L f : Nat} {d : Dn} {ps : List Str} {scope : Scope} {qual : Str} {body : List Stmt} {fa : Addr} {fd : FuncData}
theorem Dn.ok (R : FnRule P w T.K mg base fa fd d.N ps scope qual body) (hb : d.body.emb G d.N = body) (wf : d.body.wf G d.N nn L d.kp scope = true) (l1 : ps.length = d.kp.length) (l2 : G.np.getD f 0 = d.kp.length)
    (t1 : TopF T G mg) (t2 : TopC T G mg) (t3 : TopX T G mg) (hfn : ∀ g, g < nn → DefOk P w mg base T G F g) (hF : ∀ xs, F' f xs = d.run G F fuel xs) :
    FnOk P w T.K mg base (L2.CX P w) (L + 1) fa fd ps (spDen T F' (G.np.getD f 0) f) := by
  obtain ⟨S, R⟩ := R
  have len : ∀ vs H Q E, spDen T F' (G.np.getD f 0) f vs H Q E → vs.length = d.kp.length := fun vs H Q E ⟨Hf, xs, O, r, _, _, _, l, _⟩ => by rw [← r.len, l, l2]
  refine R L _ (fun vs H Q E h => by rw [len vs H Q E h, l1]) fun cdv A outer s H vs Q E hr h => ?_
  have hl := len vs H Q E h
  generalize hX : cxOf (L2.CX P w) P w T.K mg base d.N qual scope fa cdv A outer s H E = X
  have tk : Takes X (fun cls d _ H => E cls d H) := by rw [← hX]; exact takes_of rfl rfl rfl rfl
  have tk' : Takes X (WXd T fun c _ H' => E (.ref (T.adr c)) none H') := tk.imp fun cls d σ H ⟨c, e1, e2, q⟩ => by subst e1 e2; exact q
  have C : SC T G F d.N nn L scope X (fun c _ H' => E (.ref (T.adr c)) none H') := by
    refine ⟨⟨?_, fun x hx => ⟨stB_loc hx, .inl ?_⟩, fun σ => passAt tk' σ, ?_, ?_, ?_⟩, tk', ?_, ?_, ?_, S.kind, ?_, ?_⟩
    · rw [← hX]
      exact ⟨rfl, S.nd, rfl, rfl, rfl, t1, hr.units⟩
    · rw [← hX]; rfl
    · rw [← hX]; exact hr
    · rw [← hX]; exact hfn
    · rw [← hX]; exact t2
    · rw [← hX]; exact passes_of rfl
    · rw [← hX]; rfl
    · rw [← hX]; rfl
    · intro x; rw [← hX]; rfl
    · rw [← hX]; exact t3
  refine ⟨_, by rw [← hb]; exact Ss.sound (fuel := fuel) d.body C wf, ?_⟩
  obtain ⟨Hf, xs, O, r, nd, sub, dis, lx, m⟩ := h
  have lv : xs.length = vs.length := r.len
  refine ⟨Hf, xs.map some ++ List.replicate (d.N.length - xs.length) none, O, ⟨?_, nd, sub, dis⟩, ?_⟩
  · unfold L2.start
    rw [lv]
    exact EnvR.start r
  rw [hF] at m
  unfold Dn.run at m
  have st : ∀ i v, vs[i]? = some v → (start d.N vs)[i]? = some (some v) := fun i v e => by
    have hi := (List.getElem?_eq_some_iff.mp e).1
    unfold L2.start
    rw [List.getElem?_append_left (by simpa using hi), List.getElem?_map, e]
    rfl
  have par : ∀ {σ' : St} {H' Hf' : Hp} {env' : DEnv} {O' : List Addr}, ST T σ' H' Hf' env' O' → Keep (fun i => d.kp.getD i false) (start d.N vs) σ' → ∃ O2, EnvR T Hf' H' (parL d.kp env') (vs.map some) O2 ∧ O2.Nodup ∧ ∀ a ∈ O2, a ∈ O' := fun {σ' H' Hf' env' O'} S' k =>
    parL_rep S'.rep (fun i v h1 h2 => (k i h1).trans (st i v h2)) hl.symm S'.nd
  cases e : d.body.ev G F fuel (xs.map some ++ List.replicate (d.N.length - xs.length) none) with
  | nx env' =>
    rw [e] at m
    intro σ' H' Hf' O' S' k n
    obtain ⟨O2, r2, n2, s2⟩ := par S' k
    exact m .non H' Hf' O2 [] r2 .non (nd0 n2) (fun a ha => by rw [List.append_nil] at ha; exact S'.dis a (s2 a ha)) S'.sub (nx0 (n.weak s2))
  | rt v env' =>
    rw [e] at m
    intro σ' u H' Hf' O' Or S' k rv nv dv n
    obtain ⟨O2, r2, n2, s2⟩ := par S' k
    refine m u H' Hf' O2 Or r2 rv (ndm n2 (ndr nv) fun a x y => ndx nv (s2 a x) y) (fun a ha => (List.mem_append.mp ha).elim (fun z => S'.dis a (s2 a z)) (dv a)) S'.sub (n.weak fun a ha => ?_)
    exact List.mem_append.mpr ((List.mem_append.mp ha).imp (s2 a) id)
  | exc c env' =>
    rw [e] at m
    intro σ' H' Hf' O' S' k n
    obtain ⟨O2, r2, n2, s2⟩ := par S' k
    exact m H' Hf' O2 r2 n2 (fun a ha => S'.dis a (s2 a ha)) S'.sub (n.weak s2)
  | bk env' => rw [e] at m; exact m.elim
  | ct env' => rw [e] at m; exact m.elim
  | bad => rw [e] at m; exact m.elim
end

/-! ### a program's defs -/
instance : Inhabited Dn := ⟨⟨[], [], .nil⟩⟩
/-- what the first n defs compute -/
def Fof (G : Prg) (fuel : Nat) (ds : List Dn) : Nat → Fns
  | 0 => fun _ _ => .bad
  | n + 1 => (Fof G fuel ds n).ext n fun xs => (ds.getD n default).run G (Fof G fuel ds n) fuel xs
theorem Fof_at {G : Prg} {fuel : Nat} {ds : List Dn} {f : Nat} : ∀ {n : Nat}, f < n → ∀ xs, Fof G fuel ds n f xs = (ds.getD f default).run G (Fof G fuel ds f) fuel xs
  | 0, h, _ => nomatch h
  | n + 1, h, xs => by
    show (if f = n then _ else _) = _
    by_cases e : f = n
    · rw [if_pos e, e]
    · rw [if_neg e]
      exact Fof_at (by omega) xs
/-- the facts of def number f -/
structure DefF (P : Program) (w : World) (mg : Str → Option Value) (base : Heap) (T : CTab) (G : Prg) (d : Dn) (f : Nat) : Prop where
  ex : ∃ (scope : Scope) (qual : Str) (body : List Stmt), FnRule P w T.K mg base (T.fa f) (T.fd f) d.N (T.fp f) scope qual body ∧ d.body.emb G d.N = body ∧ d.body.wf G d.N f (G.lv.getD f 0 - 1) d.kp scope = true
  l1 : (T.fp f).length = d.kp.length
  l2 : G.np.getD f 0 = d.kp.length
  l3 : 0 < G.lv.getD f 0
theorem all_ok {P : Program} {w : World} {mg : Str → Option Value} {base : Heap} {T : CTab} {G : Prg} {fuel : Nat} {ds : List Dn} (t1 : TopF T G mg) (t2 : TopC T G mg) (t3 : TopX T G mg) (h : ∀ f, f < ds.length → DefF P w mg base T G (ds.getD f default) f) :
    ∀ n, n ≤ ds.length → ∀ f, f < n → DefOk P w mg base T G (Fof G fuel ds n) f
  | 0, _, f, hf => nomatch hf
  | n + 1, hn, f, hf => by
    obtain ⟨⟨scope, qual, body, R, hb, wf⟩, l1, l2, l3⟩ := h f (by omega)
    have ih : ∀ g, g < f → DefOk P w mg base T G (Fof G fuel ds f) g := fun g hg => all_ok t1 t2 t3 h f (by omega) g hg
    have z := Dn.ok (F := Fof G fuel ds f) (F' := Fof G fuel ds (n + 1)) (fuel := fuel) R hb wf l1 l2 t1 t2 t3 ih (fun xs => Fof_at hf xs)
    have e : G.lv.getD f 0 - 1 + 1 = G.lv.getD f 0 := by omega
    rw [e] at z
    exact z
  termination_by n => n
end DN

set_option Elab.async false
set_option linter.all false
set_option maxRecDepth 100000
set_option maxHeartbeats 4000000
/-! DEN, part 27: from a program's data to the law's end. -/
namespace DN
open PySem PySem.Spec PyProof.Rows L2

def AllF (P : Nat → Prop) : Nat → Prop
  | 0 => True
  | n + 1 => AllF P n ∧ P n
theorem AllF.at_ {P : Nat → Prop} : ∀ {n : Nat}, AllF P n → ∀ f, f < n → P f
  | 0, _, f, h => nomatch h
  | n + 1, a, f, h => by
    by_cases e : f = n
    · rw [e]; exact a.2
    · exact AllF.at_ a.1 f (by omega)
def fd0 : FuncData := PySem.W.fnOf "" "" ⟨[], [], none, [], [], none, []⟩ [] ⟨.function, [], false, false, []⟩ .none .none .none .none none .none .none
def fdOf (K : PySem.W.Frag) (a : Addr) : FuncData := match K.lookup a with
  | some ⟨_, _, .func fd, _⟩ => fd
  | _ => fd0
def dd0 : He.DefD := ⟨("", none), "", "", ⟨[], [], none, [], [], none, []⟩, [], ⟨.function, [], false, false, []⟩, [], []⟩
/-- a program as data -/
structure Pk where
  G : Prg
  fn : List He.DefD
  ps : List (List Str)
  ds : List Dn
  fuel : Nat
def Pk.T (k : Pk) (K : PySem.W.Frag) : CTab where
  K := K
  adr := fun c => He.ga K (k.G.cn.getD c "")
  fld := fun c => (k.G.cf.getD c []).map fun f => k.G.an.getD f ""
  fa := fun f => He.fAd K (k.fn.getD f dd0).at_
  fd := fun f => fdOf K (He.fAd K (k.fn.getD f dd0).at_)
  fp := fun f => k.ps.getD f []
/-! ### what is read off the heap behind the top -/
def excK (K : PySem.W.Frag) (x : Str) : Bool :=
  PySem.W.excIn K (He.ga K x) [.type "Exception", .type "BaseException", .type "object"] "Exception.__new__" && PySem.W.keepIn K (.ref (He.ga K x)) && decide (PySem.W.subIn K (.ref (He.ga K x)) (.type "BaseException") = some true) && decide (PySem.W.typeIn K (.ref (He.ga K x)) = some (.type "type")) &&
  decide (PySem.W.findIn K (.ref (He.ga K x)) "__getattribute__" = some (some (.builtin "BaseException.__getattribute__"))) && decide (PySem.W.findIn K (.ref (He.ga K x)) "__getattr__" = some none) && PySem.W.hasDictIn K (He.ga K x) &&
  decide (PySem.W.findIn K (.ref (He.ga K x)) "__class__" = some (some (.builtin "object.__class__"))) && decide (PySem.W.specialIn K (.builtin "object.__class__") "__get__" = some (some (.builtin "getset_descriptor.__get__"))) && decide (PySem.W.takesIn K (.builtin "object.__class__") = some true) &&
  decide (PySem.W.mroIn K (He.ga K x) (.type "object") = some true) && (He.Fa.glo x).ok K
def subK (G : Prg) (K : PySem.W.Frag) : Bool := (List.range G.sub.length).all fun c => (List.range (G.sub.getD c []).length).all fun d =>
  decide (PySem.W.exmOne K (.ref (He.ga K (G.cn.getD c ""))) (.ref (He.ga K (G.cn.getD d ""))) = subOf G c d) && decide (PySem.W.kitOne K (.ref (He.ga K (G.cn.getD c ""))) (.ref (He.ga K (G.cn.getD d ""))) = subOf G c d)
def Pk.okK (k : Pk) (K : PySem.W.Frag) : Bool :=
  (k.G.gl.all fun g => match g.2 with | .int n => (He.Fa.int g.1 n).ok K | _ => true) && (biNames.all fun x => (He.Fa.free x).ok K) &&
  ((List.range k.G.cf.length).all fun c => (k.G.cf.getD c []).isEmpty || ((He.Fa.cls (k.G.cn.getD c "")).ok K && (k.G.cf.getD c []).all fun f => (He.Fa.noat (k.G.cn.getD c "") (k.G.an.getD f "")).ok K)) &&
  ((List.range k.G.sub.length).all fun c => excK K (k.G.cn.getD c "")) && subK k.G K &&
  (k.fn.all fun d => d.ok K) && (k.G.dn.all fun x => x == ("" : Str) || (He.Fa.glo x).ok K) &&
  (k.G.mt.all fun m => (He.Fa.cls (k.G.cn.getD m.1 "")).ok K && (He.Fa.meth (k.G.cn.getD m.1 "") (k.G.an.getD m.2.1 "")).ok K) &&
  (k.G.mks.all fun m => (He.Fa.mkr (k.G.cn.getD m.1 "")).ok K && (He.Fa.glo (k.G.cn.getD m.1 "")).ok K)
def Pk.obs (k : Pk) (K : PySem.W.Frag) : He.AlD := (k.okK K, k.fn.map fun d => He.fnW K d.at_)
def Pk.says (k : Pk) (K : PySem.W.Frag) : Prop := k.obs K = (true, k.fn.map He.DefD.val)
def Pk.obsG (k : Pk) (n : Nat) (g : Addr → Option Obj) : He.AlD := k.obs (He.frG g (He.asD g n))
def Pk.hook (k : Pk) (n : Nat) : PySem.W.Hook where
  α := He.AlD
  obs := fun s => k.obsG n s.heap.get?
  val := fun _ => (true, k.fn.map He.DefD.val)
  says := fun _ h => ∃ K : PySem.W.Frag, K.In h ∧ k.says K
  of := fun _ _ e => ⟨_, He.frG_in, e⟩
  keeps := fun _ _ _ ⟨K, hK, c⟩ q => ⟨K, PySem.W.Frag.In.keeps hK q, c⟩
def Pk.ob (k : Pk) (n : Nat) (s : PySem.W.SharedT) : He.AlD := k.obsG n (HandSHeadRun.getT s)
theorem Pk.ob_eq (k : Pk) (n : Nat) (s : PySem.W.SharedT) : k.ob n s = (k.hook n).obs s.abs := by
  have e : HandSHeadRun.getT s = s.abs.heap.get? := funext (HandSHeadRun.getT_eq s)
  unfold Pk.ob
  rw [e]
  rfl

/-! ### what is checked of the data -/
structure DefS (k : Pk) (f : Nat) : Prop where
  sc : FnScope (k.ds.getD f default).N (k.ps.getD f []) (k.fn.getD f dd0).scope
  emb : (k.ds.getD f default).body.emb k.G (k.ds.getD f default).N = (k.fn.getD f dd0).body
  wf : (k.ds.getD f default).body.wf k.G (k.ds.getD f default).N f (k.G.lv.getD f 0 - 1) (k.ds.getD f default).kp (k.fn.getD f dd0).scope = true
  l1 : (k.ps.getD f []).length = (k.ds.getD f default).kp.length
  l2 : k.G.np.getD f 0 = (k.ds.getD f default).kp.length
  l3 : 0 < k.G.lv.getD f 0
/-- a call binds by position -/
def BindP (k : Pk) (f : Nat) : Prop := ∀ (K : PySem.W.Frag) (fa : Addr) (fd : FuncData), FunD K (k.fn.getD f dd0).name (k.fn.getD f dd0).qual (k.fn.getD f dd0).params (k.fn.getD f dd0).body (k.fn.getD f dd0).scope ((k.fn.getD f dd0).dvs K) ((k.fn.getD f dd0).kws K) fa fd → Binds K fd (k.ps.getD f []) []
def MkP' (k : Pk) (m : Nat) : Prop := ∀ (K : PySem.W.Frag) (fa : Addr) (fd : FuncData), FunD K (k.fn.getD (k.G.mkAt m).2.1 dd0).name (k.fn.getD (k.G.mkAt m).2.1 dd0).qual (k.fn.getD (k.G.mkAt m).2.1 dd0).params (k.fn.getD (k.G.mkAt m).2.1 dd0).body (k.fn.getD (k.G.mkAt m).2.1 dd0).scope ((k.fn.getD (k.G.mkAt m).2.1 dd0).dvs K) ((k.fn.getD (k.G.mkAt m).2.1 dd0).kws K) fa fd →
  ∃ g gV dvs, KBn K fd (k.ps.getD (k.G.mkAt m).2.1 []) ((k.G.mkAt m).2.2.1 + 1) ((k.G.mkAt m).2.2.2.1.map fun q => k.G.an.getD q "") g gV ∧ (∀ vs zs : List V, vs.length = (k.G.mkAt m).2.2.1 + 1 → zs.length = (k.G.mkAt m).2.2.2.1.length → gV vs zs = vs ++ (zs ++ dvs)) ∧ ∀ T Hf H, Reps T Hf H (k.G.mkAt m).2.2.2.2 dvs []
/-- called by position: by name or as a method -/
def Pk.byPos (k : Pk) (f : Nat) : Bool := callB k.G f || k.G.mt.any fun m => m.2.2 == f
structure Stat (k : Pk) : Prop where
  len : k.fn.length = k.ds.length
  an : k.G.an.Nodup
  nd : ∀ l ∈ k.G.cf, l.Nodup ∧ l.length < 1000 ∧ ∀ f ∈ l, f < k.G.an.length
  dn : (List.range k.G.dn.length).all (fun f => k.G.dn.getD f "" == ("" : Str) || (decide (f < k.fn.length) && k.G.dn.getD f "" == (k.fn.getD f dd0).at_.1 && (k.fn.getD f dd0).at_.2.isNone && !(k.G.dn.getD f "" == ("__debug__" : Str)))) = true
  mt : k.G.mt.all (fun m => decide (m.2.2 < k.fn.length) && (k.fn.getD m.2.2 dd0).at_ == (k.G.cn.getD m.1 "", some (k.G.an.getD m.2.1 "")) && !(((k.G.cf.getD m.1 []).map fun f => k.G.an.getD f "").contains (k.G.an.getD m.2.1 ""))) = true
  mkr : k.G.mks.all (fun m => decide (m.2.1 < k.fn.length) && (k.fn.getD m.2.1 dd0).at_ == (k.G.cn.getD m.1 "", some ("__init__" : Str)) && !(k.G.cn.getD m.1 "" == ("__debug__" : Str))) = true
  pt : k.G.pt = []
  ex : (List.range k.G.sub.length).all (fun c => !(k.G.cn.getD c "" == ("__debug__" : Str))) = true
  d : AllF (DefS k) k.ds.length
  b : AllF (fun f => k.byPos f = true → BindP k f) k.ds.length
  m : AllF (MkP' k) k.G.mks.length

section
variable {k : Pk} {K : PySem.W.Frag} {h : Heap} {mg : Str → Option Value}
theorem fdOf_fun {x qual : Str} {params : Arguments} {body : List Stmt} {scope : Scope} {dvs : List V} {kws : List (Str × V)} {f : Addr} {fd : FuncData} (F : FunD K x qual params body scope dvs kws f fd) : fdOf K f = fd := by
  obtain ⟨oc, od, dV, kV, doc, pm, an, cdv, ct, osl, rfl, lk, _⟩ := F.ex
  unfold fdOf
  rw [lk]
theorem Pk.fun_ (c : k.says K) (f : Nat) (hf : f < k.fn.length) : FunD K (k.fn.getD f dd0).name (k.fn.getD f dd0).qual (k.fn.getD f dd0).params (k.fn.getD f dd0).body (k.fn.getD f dd0).scope ((k.fn.getD f dd0).dvs K) ((k.fn.getD f dd0).kws K) ((k.T K).fa f) ((k.T K).fd f) := by
  have c1 : k.okK K = true := congrArg (fun z : He.AlD => z.1) c
  have c2 : (k.fn.map fun d => He.fnW K d.at_) = k.fn.map He.DefD.val := congrArg (fun z : He.AlD => z.2) c
  have hd : k.fn[f]? = some (k.fn.getD f dd0) := by rw [List.getD_eq_getElem?_getD, List.getElem?_eq_getElem hf]; rfl
  have e2 : (k.fn.map fun d => He.fnW K d.at_)[f]? = (k.fn.map He.DefD.val)[f]? := by rw [c2]
  rw [List.getElem?_map, List.getElem?_map, hd] at e2
  unfold Pk.okK at c1
  simp only [Bool.and_eq_true] at c1
  obtain ⟨⟨⟨⟨⟨⟨⟨⟨_, _⟩, _⟩, _⟩, _⟩, c6⟩, _⟩, _⟩, _⟩ := c1
  obtain ⟨fd, F⟩ := He.DefD.funD (Option.some.inj e2) (List.all_eq_true.mp c6 _ (List.mem_of_getElem? hd))
  have e := fdOf_fun F
  show FunD K _ _ _ _ _ _ _ (He.fAd K (k.fn.getD f dd0).at_) (fdOf K (He.fAd K (k.fn.getD f dd0).at_))
  rw [e]
  exact F
theorem Pk.topF (X : K.In h) (G : h.Ns mainGlobals mg) (s : Stat k) (c : k.says K) : TopF (k.T K) k.G mg := by
  have c1 : k.okK K = true := congrArg (fun z : He.AlD => z.1) c
  unfold Pk.okK at c1
  simp only [Bool.and_eq_true] at c1
  obtain ⟨⟨⟨⟨⟨⟨⟨⟨c1, c2⟩, c3⟩, c4⟩, c5⟩, c6⟩, c7⟩, c8⟩, c9⟩ := c1
  have cf : ∀ c l, k.G.cf[c]? = some l → l ∈ k.G.cf ∧ k.G.cf.getD c [] = l ∧ c < k.G.cf.length := fun c l e => ⟨List.mem_of_getElem? e, by rw [List.getD_eq_getElem?_getD, e]; rfl, (List.getElem?_eq_some_iff.mp e).1⟩
  have cc : ∀ c l f, k.G.cf[c]? = some l → f ∈ l → (He.Fa.cls (k.G.cn.getD c "")).ok K = true ∧ (He.Fa.noat (k.G.cn.getD c "") (k.G.an.getD f "")).ok K = true := fun c l f e hf => by
    obtain ⟨h1, h2, h3⟩ := cf c l e
    have z := List.all_eq_true.mp c3 c (List.mem_range.mpr h3)
    rw [h2] at z
    rw [Bool.or_eq_true, Bool.and_eq_true] at z
    rcases z with z | z
    · rw [List.isEmpty_iff] at z
      rw [z] at hf
      cases hf
    · exact ⟨z.1, List.all_eq_true.mp z.2 f hf⟩
  refine ⟨fun g x n e => ?_, fun x hx => ?_, s.an, fun c l e => ?_, fun c l f e hf => ?_, fun c l f e hf => ?_, fun c l e => (s.nd l (cf c l e).1).1⟩
  · have z := List.all_eq_true.mp c1 _ (List.mem_of_getElem? e)
    exact He.int_ok X G z
  · exact He.free_ok X G (List.all_eq_true.mp c2 x hx)
  · show (k.G.cf.getD c []).map _ = _
    rw [(cf c l e).2.1]
  · exact He.cls_ok (cc c l f e hf).1
  · exact ⟨He.noat_ok (cc c l f e hf).2, (s.nd l (cf c l e).1).2.2 f hf⟩
theorem Pk.topC (X : K.In h) (G : h.Ns mainGlobals mg) (s : Stat k) (c : k.says K) : TopC (k.T K) k.G mg := by
  have fns := Pk.fun_ (k := k) (K := K) c
  have c1 : k.okK K = true := congrArg (fun z : He.AlD => z.1) c
  unfold Pk.okK at c1
  simp only [Bool.and_eq_true] at c1
  obtain ⟨⟨⟨⟨⟨⟨⟨⟨c1, c2⟩, c3⟩, c4⟩, c5⟩, c6⟩, c7⟩, c8⟩, c9⟩ := c1
  refine ⟨fun f x e hx => ?_, fun c m f hm => ?_, fun c m f hm => ?_, fun c f n ks ds hm => ?_⟩
  · have hf := (List.getElem?_eq_some_iff.mp e).1
    have ex : k.G.dn.getD f "" = x := by rw [List.getD_eq_getElem?_getD, e]; rfl
    have z := List.all_eq_true.mp s.dn f (List.mem_range.mpr hf)
    rw [ex] at z
    rw [hx, Bool.false_or] at z
    simp only [Bool.and_eq_true] at z
    obtain ⟨⟨⟨z1, z2⟩, z3⟩, z4⟩ := z
    have hl := of_decide_eq_true z1
    have F := fns f hl
    have ea : (k.T K).fa f = He.ga K x := by
      show He.fAd K (k.fn.getD f dd0).at_ = _
      have a1 : (k.fn.getD f dd0).at_.1 = x := by
        have : x = (k.fn.getD f dd0).at_.1 := by simpa using z2
        exact this.symm
      have a2 : (k.fn.getD f dd0).at_.2 = none := by simpa using z3
      unfold He.fAd
      rw [a2, a1]
    have hd := List.all_eq_true.mp c7 x (List.mem_of_getElem? e)
    rw [hx, Bool.false_or] at hd
    refine ⟨?_, F.kp, s.b.at_ f (by rw [← s.len]; exact hl) ?_ K _ _ F, by simpa using z4⟩
    · rw [ea]; exact He.glo_ok X G hd
    · unfold Pk.byPos callB
      rw [e]
      show ((!(x == ("" : Str))) || _) = true
      rw [hx]
      rfl
  · have z := List.all_eq_true.mp s.mt _ hm
    simp only [Bool.and_eq_true] at z
    obtain ⟨⟨z1, z2⟩, z3⟩ := z
    have hl := of_decide_eq_true z1
    have F := fns f hl
    have q := List.all_eq_true.mp c8 _ hm
    simp only [Bool.and_eq_true] at q
    have ea : (k.T K).fa f = He.ma K (He.ga K (k.G.cn.getD c "")) (k.G.an.getD m "") := by
      show He.fAd K (k.fn.getD f dd0).at_ = _
      have a1 : (k.fn.getD f dd0).at_ = (k.G.cn.getD c "", some (k.G.an.getD m "")) := by simpa using z2
      unfold He.fAd
      rw [a1]
    refine ⟨He.cls_ok q.1, by rw [ea]; exact He.meth_ok q.2, s.b.at_ f (by rw [← s.len]; exact hl) ?_ K _ _ F, fun w => ?_⟩
    · unfold Pk.byPos
      rw [Bool.or_eq_true]
      exact .inr (List.any_eq_true.mpr ⟨_, hm, by simp⟩)
    · have w2 : (((k.G.cf.getD c []).map fun f => k.G.an.getD f "").contains (k.G.an.getD m "")) = true := by
        rw [List.contains_iff_mem]; exact w
      rw [w2] at z3
      cases z3
  · rw [s.pt] at hm; cases hm
  · obtain ⟨i, hi, e⟩ := List.getElem_of_mem hm
    have em : k.G.mkAt i = (c, f, n, ks, ds) := by
      unfold Prg.mkAt
      rw [List.getD_eq_getElem?_getD, List.getElem?_eq_getElem hi, e]
      rfl
    have z := List.all_eq_true.mp s.mkr _ hm
    simp only [Bool.and_eq_true] at z
    obtain ⟨⟨z1, z2⟩, z3⟩ := z
    have hl := of_decide_eq_true z1
    have F := fns f hl
    have q := List.all_eq_true.mp c9 _ hm
    simp only [Bool.and_eq_true] at q
    have ea : (k.T K).fa f = He.ma K (He.ga K (k.G.cn.getD c "")) "__init__" := by
      show He.fAd K (k.fn.getD f dd0).at_ = _
      have a1 : (k.fn.getD f dd0).at_ = (k.G.cn.getD c "", some ("__init__" : Str)) := by simpa using z2
      unfold He.fAd
      rw [a1]
    have mm := s.m.at_ i hi K
    unfold MkP' at mm
    rw [em] at mm
    obtain ⟨g, gV, dvs, k1, k2, k3⟩ := mm _ _ F
    exact ⟨g, gV, dvs, by rw [ea]; exact He.mkr_ok q.1, k1, k2, k3 _, He.glo_ok X G q.2, by simpa using z3⟩
theorem Pk.topX (X : K.In h) (G : h.Ns mainGlobals mg) (s : Stat k) (c : k.says K) : TopX (k.T K) k.G mg := by
  have c1 : k.okK K = true := congrArg (fun z : He.AlD => z.1) c
  unfold Pk.okK at c1
  simp only [Bool.and_eq_true] at c1
  obtain ⟨⟨⟨⟨⟨⟨⟨⟨c1, c2⟩, c3⟩, c4⟩, c5⟩, c6⟩, c7⟩, c8⟩, c9⟩ := c1
  refine ⟨fun c hc => ?_, fun c d b e => ?_, fun c => ?_⟩
  · have z := List.all_eq_true.mp c4 c (List.mem_range.mpr hc)
    have e := List.all_eq_true.mp s.ex c (List.mem_range.mpr hc)
    unfold excK at z
    simp only [Bool.and_eq_true] at z
    obtain ⟨⟨⟨⟨⟨⟨⟨⟨⟨⟨⟨z1, z2⟩, z3⟩, z4⟩, z5⟩, z6⟩, z7⟩, z8⟩, z9⟩, z10⟩, z11⟩, z12⟩ := z
    exact ⟨He.glo_ok X G z12, z2, by simpa using e, ⟨of_decide_eq_true z5, of_decide_eq_true z6, of_decide_eq_true z3, z7, of_decide_eq_true z8, of_decide_eq_true z9, of_decide_eq_true z10, of_decide_eq_true z11⟩, ⟨_, _, _, _, PySem.F.excBase_Exception, z1⟩, of_decide_eq_true z3, of_decide_eq_true z4⟩
  · have e' : ((k.G.sub[c]?).bind fun l => l[d]?) = some b := e
    cases q : k.G.sub[c]? with
    | none => rw [q] at e'; cases e'
    | some l =>
      rw [q] at e'
      have e2 : l[d]? = some b := e'
      have hc := (List.getElem?_eq_some_iff.mp q).1
      have el : k.G.sub.getD c [] = l := by rw [List.getD_eq_getElem?_getD, q]; rfl
      unfold subK at c5
      have z := List.all_eq_true.mp c5 c (List.mem_range.mpr hc)
      have z2 := List.all_eq_true.mp z d (List.mem_range.mpr (by rw [el]; exact (List.getElem?_eq_some_iff.mp e2).1))
      rw [Bool.and_eq_true] at z2
      have z3 := of_decide_eq_true z2.1
      have z4 := of_decide_eq_true z2.2
      rw [e] at z3 z4
      exact ⟨hc, z3, z4⟩
  · show ((k.G.cf.getD c []).map _).length < 1000
    rw [List.length_map, List.getD_eq_getElem?_getD]
    cases q : k.G.cf[c]? with
    | none => show ([] : List Nat).length < 1000; decide
    | some l => exact (s.nd l (List.mem_of_getElem? q)).2.1
theorem Pk.ok (X : K.In h) (G : h.Ns mainGlobals mg) (s : Stat k) (c : k.says K) {P : Program} {w : World} {base : Heap} : ∀ f, f < k.ds.length → DefOk P w mg base (k.T K) k.G (Fof k.G k.fuel k.ds k.ds.length) f := by
  refine all_ok (Pk.topF X G s c) (Pk.topC X G s c) (Pk.topX X G s c) (fun f hf => ?_) k.ds.length (Nat.le_refl _)
  have d := s.d.at_ f hf
  have F := Pk.fun_ c f (by rw [s.len]; exact hf)
  exact ⟨⟨_, _, _, FunD.rule F d.sc, d.emb, d.wf⟩, d.l1, d.l2, d.l3⟩

/-! ### the law's end -/
def CX1 (P : Program) : CXT := fun outer H s E u s' => ∃ w, L2.CX P w outer H s E u s'
theorem FnOk.cx1 {P : Program} {w : World} {K : PySem.W.Frag} {mg : Str → Option Value} {base : Heap} {k : Nat} {f : Addr} {fd : FuncData} {ps : List Str} {sp : Sp} (F : FnOk P w K mg base (L2.CX P w) k f fd ps sp) : FnOk P w K mg base (CX1 P) k f fd ps sp :=
  ⟨F.len, fun A outer s H args us vs Q E hr he hb hv hs => codeAny_mono (F.run A outer s H args us vs Q E hr he hb hv hs) fun r s' q => by
    cases r with
    | error e => exact ⟨w, q⟩
    | ok fl =>
      cases fl with
      | ret u => exact q
      | next => exact q
      | brk => exact q
      | cont => exact q⟩
theorem cx1_no {P : Program} (H : Hp) (s : Shared) (e : Value) (s' : Shared) (z : CX1 P [] H s (fun _ _ _ => False) e s') : False := by
  obtain ⟨w, _, _, _, _, _, _, _, _, _, _, _, _, z⟩ := z
  exact z
theorem Pk.F {P : Program} {w : World} {fa : Addr} {n fL : Nat} (s : Stat k) (Y : ∃ K : PySem.W.Frag, K.In h ∧ k.says K) (G : h.Ns mainGlobals mg) (hmg : mg "law" = some (.ref fa)) (hL : fL < k.ds.length) (hd : k.G.dn[fL]? = some "law") (hn : k.G.np.getD fL 0 = 1) (hp : k.ps.getD fL [] = [("script" : Str)])
    (hb : ∀ (K : PySem.W.Frag) (fa : Addr) (fd : FuncData), FunD K (k.fn.getD fL dd0).name (k.fn.getD fL dd0).qual (k.fn.getD fL dd0).params (k.fn.getD fL dd0).body (k.fn.getD fL dd0).scope ((k.fn.getD fL dd0).dvs K) ((k.fn.getD fL dd0).kws K) fa fd → ∀ (s : Shared) (u : Value), BindsTo s fd ⟨[u], []⟩ [(("script" : Str), u)])
    (math : ∀ ns : List Int, ns.length ≤ n → ∃ ps, Fof k.G k.fuel k.ds k.ds.length fL [.scr ns] = .ok (.bl true) ps) :
    ∃ (K : PySem.W.Frag) (fd : FuncData) (sp : Sp), K.In h ∧ (∀ (s : Shared) (u : Value), BindsTo s fd ⟨[u], []⟩ [(("script" : Str), u)]) ∧
        (∀ (H : Hp) (a : Addr) (ns : List Int), ns.length ≤ n → Only H → SqL K H a (ns.map V.int) → sp [.ref a] H (fun v _ => v = .bl true) fun _ _ _ => False) ∧
        ∀ base : Heap, K.In base → base.Ns mainGlobals mg → FnOk P w K mg base (CX1 P) (k.G.lv.getD fL 0) fa fd [("script" : Str)] sp := by
  obtain ⟨K, X, c⟩ := Y
  have F := Pk.fun_ c fL (by rw [s.len]; exact hL)
  obtain ⟨m1, _, _, _⟩ := (Pk.topC X G s c).call fL "law" hd rfl
  have efa : (k.T K).fa fL = fa := by
    rw [hmg] at m1
    cases m1
    rfl
  rw [efa] at F
  refine ⟨K, (k.T K).fd fL, spDen (k.T K) (Fof k.G k.fuel k.ds k.ds.length) 1 fL, X, hb K _ _ F, fun H a ns hl ho hq => ?_, fun base _ _ => ?_⟩
  · obtain ⟨ps, e⟩ := math ns hl
    have hr : Rep (k.T K) H H (.scr ns) (.ref a) [] := .scr hq
    refine ⟨H, [.scr ns], [], Reps.consN hr .nil, .nil, Same.refl _, fun _ h => (nomatch h), rfl, ?_⟩
    rw [e]
    intro v H' Hf' O' Or rp rv nd d sub nx
    cases rv
    rfl
  · have z := FnOk.cx1 (Pk.ok X G s c (P := P) (w := w) (base := base) fL hL)
    have e1 : (k.T K).fp fL = [("script" : Str)] := hp
    rw [hn, efa, e1] at z
    exact z
end
end DN

set_option Elab.async false
set_option linter.all false
set_option maxRecDepth 100000
set_option maxHeartbeats 4000000
/-! DEN, part 28: for the mathematics: loops, small facts of evaluation. -/
namespace DN
open PySem PySem.Spec PyProof.Rows L2
theorem sOk_le' {n : Nat} (h : n ≤ 1000000) : sOk n = true := by
  unfold sOk
  have e : (1000000 : Nat) ≤ sizeLine := by decide
  exact decide_eq_true (by omega)
theorem size_lt {n : Nat} (h : n < 1000000) : n < sizeLine := by
  have e : (1000000 : Nat) ≤ sizeLine := by decide
  omega
theorem kitB_ii : kitB "int" "int" = some true := by decide +kernel
theorem kitB_bi : kitB "bool" "int" = some true := by decide +kernel
theorem kitB_bb : kitB "bool" "bool" = some true := by decide +kernel
theorem kitB_ib : kitB "int" "bool" = some false := by decide +kernel
theorem kitB_it : kitB "int" "tuple" = some false := by decide +kernel
theorem kitB_tt : kitB "tuple" "tuple" = some true := by decide +kernel
theorem kitB_tl : kitB "tuple" "list" = some false := by decide +kernel
theorem kitB_lt : kitB "list" "tuple" = some false := by decide +kernel
theorem kitB_ll : kitB "list" "list" = some true := by decide +kernel
theorem kitB_si : kitB "str" "int" = some false := by decide +kernel
theorem kitB_sb : kitB "str" "bool" = some false := by decide +kernel
theorem kitB_ni : kitB "NoneType" "int" = some false := by decide +kernel
theorem kitB_nb : kitB "NoneType" "bool" = some false := by decide +kernel
theorem eqP_int (i j : Int) : eqP (.int i) (.int j) = some (decide (i = j)) := by
  unfold eqP
  have h : ∀ i : Int, SeqAt.shaped (.int i) = true := fun i => rfl
  simp only [PV.toD, h, Bool.and_self, if_true]
  rfl
/-! ### loops -/
theorem forRun_eq {tg : PV → DEnv → Option DEnv} {body : DEnv → RS} : ∀ (xs : List PV) (E : Nat → DEnv), (∀ i x, xs[i]? = some x → ∃ e1, tg x (E i) = some e1 ∧ (body e1 = .nx (E (i + 1)) ∨ body e1 = .ct (E (i + 1)))) → forRun tg body xs (E 0) = .nx (E xs.length)
  | [], E, _ => rfl
  | x :: xs, E, h => by
    obtain ⟨e1, h1, h2⟩ := h 0 x rfl
    have ih := forRun_eq xs (fun i => E (i + 1)) fun i y hy => h (i + 1) y hy
    unfold forRun
    rw [h1]
    dsimp only
    rcases h2 with h2 | h2 <;> (rw [h2]; exact ih)
theorem forRun_inv {tg : PV → DEnv → Option DEnv} {body : DEnv → RS} : ∀ (xs : List PV) (I : Nat → DEnv → Prop) (e : DEnv), I 0 e → (∀ i x e, xs[i]? = some x → I i e → ∃ e1, tg x e = some e1 ∧ ∃ e2, (body e1 = .nx e2 ∨ body e1 = .ct e2) ∧ I (i + 1) e2) →
    ∃ e', forRun tg body xs e = .nx e' ∧ I xs.length e'
  | [], I, e, h0, _ => ⟨e, rfl, h0⟩
  | x :: xs, I, e, h0, h => by
    obtain ⟨e1, h1, e2, h2, h3⟩ := h 0 x e rfl h0
    obtain ⟨e', r, i'⟩ := forRun_inv xs (fun i => I (i + 1)) e2 h3 fun i y e hy => h (i + 1) y e hy
    refine ⟨e', ?_, i'⟩
    unfold forRun
    rw [h1]
    dsimp only
    rcases h2 with h2 | h2 <;> (rw [h2]; exact r)
theorem lcRun_eq {own : List Nat} {tg : PV → DEnv → Option DEnv} {tt : DEnv → R Bool} {el : DEnv → R PV} (f : PV → PV) (c : PV → Bool) (env : DEnv) : ∀ (xs acc : List PV), (∀ x ∈ xs, ∃ e1 e2, tg x env = some e1 ∧ tt e1 = .ok (c x) e2 ∧ (c x = false → wipeE e2 own = env) ∧ (c x = true → ∃ e3, el e2 = .ok (f x) e3 ∧ wipeE e3 own = env)) →
    acc.length + xs.length ≤ 1000000 → lcRun own tg tt el xs acc env = .ok (acc ++ (xs.filter c).map f) env
  | [], acc, _, _ => by simp [lcRun]
  | x :: xs, acc, h, hl => by
    obtain ⟨e1, e2, h1, h2, h3, h4⟩ := h x List.mem_cons_self
    have ih := fun acc' hl' => lcRun_eq (own := own) (tg := tg) (tt := tt) (el := el) f c env xs acc' (fun y hy => h y (List.mem_cons_of_mem _ hy)) hl'
    rw [List.length_cons] at hl
    unfold lcRun
    rw [h1]
    dsimp only
    rw [h2]
    cases hc : c x with
    | false =>
      dsimp only
      rw [h3 hc, ih acc (by omega), List.filter_cons, hc]
      simp
    | true =>
      obtain ⟨e3, h5, h6⟩ := h4 hc
      dsimp only
      rw [h5]
      dsimp only
      have hz := size_lt (n := acc.length) (by omega)
      rw [if_pos (decide_eq_true hz), h6, ih (acc ++ [f x]) (by rw [List.length_append, List.length_singleton]; omega), List.filter_cons, hc]
      simp
theorem whileRun_inv {tt : DEnv → R Bool} {body : DEnv → RS} (I : DEnv → Prop) (P : DEnv → Prop) (μ : DEnv → Nat) (h : ∀ e, I e → ∃ b e1, tt e = .ok b e1 ∧ (b = false → P e1) ∧ (b = true → ∃ e2, (body e1 = .nx e2 ∨ body e1 = .ct e2) ∧ I e2 ∧ μ e2 < μ e)) :
    ∀ (fuel : Nat) (e : DEnv), I e → μ e < fuel → ∃ e', whileRun tt body fuel e = .nx e' ∧ P e'
  | 0, _, _, hl => nomatch hl
  | fuel + 1, e, i, hl => by
    obtain ⟨b, e1, h1, h2, h3⟩ := h e i
    unfold whileRun
    rw [h1]
    cases b with
    | false => exact ⟨e1, rfl, h2 rfl⟩
    | true =>
      obtain ⟨e2, h4, h5, h6⟩ := h3 rfl
      obtain ⟨e', r, p⟩ := whileRun_inv I P μ h fuel e2 h5 (by omega)
      refine ⟨e', ?_, p⟩
      dsimp only
      rcases h4 with h4 | h4 <;> (rw [h4]; exact r)
/-! ### numbers, pairs, truth values as values -/
def encN (n : Nat) : PV := .int (n : Int)
def encL (l : List Nat) : List PV := l.map encN
def encB (l : List Bool) : List PV := l.map .bl
def encP (p : Nat × Nat) : PV := .tup [encN p.1, encN p.2]
def encPs (l : List (Nat × Nat)) : List PV := l.map encP
theorem frz_encN (n : Nat) : (encN n).frz = encN n := rfl
theorem frzs_map {α : Type} (f : α → PV) (h : ∀ a, (f a).frz = f a) : ∀ l : List α, frzs (l.map f) = l.map f
  | [] => rfl
  | a :: l => by
    show (f a).frz :: frzs (l.map f) = _
    rw [h, frzs_map f h l]
    rfl
theorem frzs_encL (l : List Nat) : frzs (encL l) = encL l := frzs_map _ (fun _ => rfl) l
theorem frzs_encB (l : List Bool) : frzs (encB l) = encB l := frzs_map _ (fun _ => rfl) l
theorem frzs_encPs (l : List (Nat × Nat)) : frzs (encPs l) = encPs l := frzs_map _ (fun _ => rfl) l
theorem flat_map {α : Type} (f : α → PV) (h : ∀ a, (f a).own = false) (l : List α) : flatP (l.map f) = true := by
  unfold flatP
  rw [List.all_map]
  exact List.all_eq_true.mpr fun a _ => by simp [h a]
theorem flat_encL (l : List Nat) : flatP (encL l) = true := flat_map _ (fun _ => rfl) l
theorem flat_encB (l : List Bool) : flatP (encB l) = true := flat_map _ (fun _ => rfl) l
theorem flat_encPs (l : List (Nat × Nat)) : flatP (encPs l) = true := flat_map _ (fun _ => rfl) l
theorem ixN_lt {n i : Nat} (h : i < n) : ixN n (i : Int) = some i := by
  unfold ixN
  rw [if_pos (by omega), if_pos (by omega)]
  rfl
theorem range_enc (n : Nat) : rangeP 0 n = encL (List.range n) := by
  unfold rangeP encL
  apply List.map_congr_left
  intro a _
  show PV.int (0 + (a : Int)) = .int (a : Int)
  rw [Int.zero_add]
theorem rgOk_small {n : Int} (h : 0 ≤ n) (h2 : n ≤ 1000000) : rgOk n = true := by
  unfold rgOk
  rw [Bool.and_eq_true]
  exact ⟨decide_eq_true (by omega), decide_eq_true (by omega)⟩
end DN

set_option Elab.async false
set_option linter.all false
set_option maxRecDepth 100000
set_option maxHeartbeats 4000000
/-! SH, part 1: plain programs over Lean's own types, and when one tells what the interpreter computes. -/
namespace SH
open PySem DN L2

inductive M (α : Type) where
  | ok (a : α)
  | exc (c : Nat)
  | bad
inductive Flow (σ τ ρ : Type) where
  | nx (s : σ)
  | bk (s : τ)
  | ct (s : τ)
  | rt (r : ρ)
namespace M
variable {α β γ : Type}
def bind : M α → (α → M β) → M β
  | .ok a, f => f a
  | .exc c, _ => .exc c
  | .bad, _ => .bad
def of : Option α → M α
  | some a => .ok a
  | none => .bad
@[simp] theorem bind_ok (a : α) (f : α → M β) : (M.ok a).bind f = f a := Eq.trans rfl rfl
@[simp] theorem bind_exc (c : Nat) (f : α → M β) : (M.exc c).bind f = .exc c := Eq.trans rfl rfl
@[simp] theorem bind_bad (f : α → M β) : (M.bad).bind f = .bad := Eq.trans rfl rfl
@[simp] theorem of_some (a : α) : M.of (some a) = .ok a := Eq.trans rfl rfl
@[simp] theorem of_none : M.of (none : Option α) = .bad := Eq.trans rfl rfl
theorem bind_assoc (m : M α) (f : α → M β) (g : β → M γ) : (m.bind f).bind g = m.bind fun a => (f a).bind g := by cases m <;> rfl
end M
def gd (b : Bool) : M Unit := if b then .ok () else .bad
@[simp] theorem gd_true : gd true = .ok () := Eq.trans rfl rfl
variable {α β γ σ τ ρ σ' τ' ρ' δ : Type}
/-- what comes behind a loop or a joined if -/
def M.andThen (m : M (Flow σ τ ρ)) (k : σ → M (Flow σ' τ ρ)) : M (Flow σ' τ ρ) := m.bind fun
  | .nx s => k s
  | .bk s => .ok (.bk s)
  | .ct s => .ok (.ct s)
  | .rt r => .ok (.rt r)
@[simp] theorem andThen_nx (s : σ) (k : σ → M (Flow σ' τ ρ)) : (M.ok (.nx s)).andThen k = k s := Eq.trans rfl rfl
@[simp] theorem andThen_rt (r : ρ) (k : σ → M (Flow σ' τ ρ)) : (M.ok (.rt r)).andThen k = .ok (.rt r) := Eq.trans rfl rfl
@[simp] theorem andThen_bk (r : τ) (k : σ → M (Flow σ' τ ρ)) : (M.ok (.bk r)).andThen k = .ok (.bk r) := Eq.trans rfl rfl
@[simp] theorem andThen_ct (r : τ) (k : σ → M (Flow σ' τ ρ)) : (M.ok (.ct r)).andThen k = .ok (.ct r) := Eq.trans rfl rfl
@[simp] theorem andThen_exc (c : Nat) (k : σ → M (Flow σ' τ ρ)) : (M.exc c).andThen k = .exc c := Eq.trans rfl rfl
@[simp] theorem andThen_bad (k : σ → M (Flow σ' τ ρ)) : (M.bad).andThen k = .bad := Eq.trans rfl rfl
theorem bind_andThen (m : M α) (f : α → M (Flow σ τ ρ)) (k : σ → M (Flow σ' τ ρ)) : (m.bind f).andThen k = m.bind fun a => (f a).andThen k := by cases m <;> rfl
/-- a def's own end -/
def toM (m : M (Flow ρ Empty ρ)) : M ρ := m.bind fun
  | .nx r => .ok r
  | .rt r => .ok r
  | .bk e => nomatch e
  | .ct e => nomatch e
@[simp] theorem toM_nx (r : ρ) : toM (.ok (.nx r)) = .ok r := Eq.trans rfl rfl
@[simp] theorem toM_rt (r : ρ) : toM (.ok (.rt r)) = .ok r := Eq.trans rfl rfl
@[simp] theorem toM_exc (c : Nat) : toM (.exc c : M (Flow ρ Empty ρ)) = .exc c := Eq.trans rfl rfl
@[simp] theorem toM_bad : toM (.bad : M (Flow ρ Empty ρ)) = .bad := Eq.trans rfl rfl
theorem toM_bind (m : M α) (f : α → M (Flow ρ Empty ρ)) : toM (m.bind f) = m.bind fun a => toM (f a) := by cases m <;> rfl
theorem toM_ite (c : Bool) (a b : M (Flow ρ Empty ρ)) : toM (if c then a else b) = if c then toM a else toM b := by cases c <;> rfl
/-- a for loop -/
def forF (f : α → σ → M (Flow σ σ ρ)) : List α → σ → M (Flow σ τ ρ)
  | [], s => .ok (.nx s)
  | x :: xs, s => (f x s).bind fun
    | .nx s => forF f xs s
    | .ct s => forF f xs s
    | .bk s => .ok (.nx s)
    | .rt r => .ok (.rt r)
/-- a while loop, at most so many turns -/
def whileF (t : σ → M Bool) (f : σ → M (Flow σ σ ρ)) : Nat → σ → M (Flow σ τ ρ)
  | 0, _ => .bad
  | n + 1, s => (t s).bind fun c => if c then (f s).bind fun
      | .nx s => whileF t f n s
      | .ct s => whileF t f n s
      | .bk s => .ok (.nx s)
      | .rt r => .ok (.rt r)
    else .ok (.nx s)
/-- a comprehension: rt: an item, nx: left out -/
def lcF (f : α → M (Flow Unit Empty β)) : List α → M (List β)
  | [] => .ok []
  | x :: xs => (f x).bind fun
    | .nx _ => lcF f xs
    | .rt y => (lcF f xs).bind fun ys => .ok (y :: ys)
    | .bk e => nomatch e
    | .ct e => nomatch e
theorem lcF_map (g : α → β) : ∀ l : List α, lcF (fun x => .ok (.rt (g x))) l = .ok (l.map g)
  | [] => rfl
  | x :: l => by unfold lcF; rw [lcF_map g l]; rfl
theorem lcF_filter (c : α → Bool) (g : α → β) : ∀ l : List α, lcF (fun x => if c x then .ok (.rt (g x)) else .ok (.nx ())) l = .ok ((l.filter c).map g)
  | [] => rfl
  | x :: l => by
    unfold lcF
    rw [lcF_filter c g l, List.filter_cons]
    cases c x <;> rfl
/-- try: .. except d -/
def tryM (G : Prg) (d : Nat) (m : M (Flow σ τ ρ)) (h : Nat → M (Flow σ τ ρ)) : M (Flow σ τ ρ) := match m with
  | .exc c => match subOf G c d with
    | some true => h c
    | some false => .exc c
    | none => .bad
  | r => r

/-! ### when a plain program tells what the interpreter computes -/
structure Cx (σ τ ρ : Type) where
  N : σ → DEnv → Prop
  L : τ → DEnv → Prop
  Q : ρ → PV → DEnv → Prop
  X : Nat → DEnv → Prop
def Sim0 (C : Cx σ τ ρ) (r : RS) : M (Flow σ τ ρ) → Prop
  | .bad => True
  | .exc c => ∃ e, r = .exc c e ∧ C.X c e
  | .ok (.nx s) => ∃ e, r = .nx e ∧ C.N s e
  | .ok (.bk s) => ∃ e, r = .bk e ∧ C.L s e
  | .ok (.ct s) => ∃ e, r = .ct e ∧ C.L s e
  | .ok (.rt v) => ∃ p e, r = .rt p e ∧ C.Q v p e
structure Sim (C : Cx σ τ ρ) (r : RS) (m : M (Flow σ τ ρ)) : Prop where
  o : Sim0 C r m
/-- a def: v its value, ps its parameters at the end -/
def CS (v : ρ → PV) (ps : ρ → DEnv) (XP : DEnv → Prop) (r : CR) : M ρ → Prop
  | .bad => True
  | .exc c => ∃ e, r = .exc c e ∧ XP e
  | .ok a => r = .ok (v a) (ps a)
section
variable {C : Cx σ τ ρ} {G : Prg} {F : Fns} {fu : Nat} {env e1 e2 : DEnv} {r : RS} {m m1 m2 : M (Flow σ τ ρ)} {ss : Ss} {p p1 p2 p3 p4 p5 p6 p7 pt pn pa pc pi : Pos}
/-! #### the plain side -/
theorem g_gd {c : Bool} (h : c = true → Sim C r m) : Sim C r ((gd c).bind fun _ => m) := by
  cases c with
  | false => exact ⟨trivial⟩
  | true => exact h rfl
theorem g_of {o : Option α} {k : α → M (Flow σ τ ρ)} (h : ∀ y, o = some y → Sim C r (k y)) : Sim C r ((M.of o).bind k) := by
  cases o with
  | none => exact ⟨trivial⟩
  | some y => exact h y rfl
theorem g_if {c : Bool} (h1 : c = true → Sim C r m1) (h2 : c = false → Sim C r m2) : Sim C r (if c then m1 else m2) := by
  cases c with
  | false => exact h2 rfl
  | true => exact h1 rfl
theorem g_bad : Sim C r .bad := ⟨trivial⟩
theorem z_nx {s : σ} {e : DEnv} (h : C.N s e) : Sim C (.nx e) (.ok (.nx s)) := ⟨_, rfl, h⟩
theorem z_bk {s : τ} {e : DEnv} (h : C.L s e) : Sim C (.bk e) (.ok (.bk s)) := ⟨_, rfl, h⟩
theorem z_ct {s : τ} {e : DEnv} (h : C.L s e) : Sim C (.ct e) (.ok (.ct s)) := ⟨_, rfl, h⟩
theorem z_rt {v : ρ} {x : PV} {e : DEnv} (h : C.Q v x e) : Sim C (.rt x e) (.ok (.rt v)) := ⟨_, _, rfl, h⟩
theorem z_exc {c : Nat} {e : DEnv} (h : C.X c e) : Sim C (.exc c e) (.exc c) := ⟨_, rfl, h⟩
/-! #### steps of an expression, in front of what follows -/
variable {k : PV → DEnv → RS}
theorem z_ok {γ : Type} {q : R γ} {x : γ} {k : γ → DEnv → RS} (h : q = .ok x e1) (h2 : Sim C (k x e1) m) : Sim C (q.toS k) m := by
  rw [h]; exact h2
theorem z_of {γ : Type} {o : Option γ} {x : γ} {k : γ → DEnv → RS} (h : o = some x) (h2 : Sim C (k x env) m) : Sim C ((R.of o env).toS k) m := by
  rw [h]; exact h2
theorem toS_bind {γ ε : Type} (q : R γ) (f : γ → DEnv → R ε) (k : ε → DEnv → RS) : (q.bind f).toS k = q.toS fun x e => (f x e).toS k := by cases q <;> rfl
theorem z_bind {γ ε : Type} {q : R γ} {f : γ → DEnv → R ε} {k : ε → DEnv → RS} (h : Sim C (q.toS fun x e => (f x e).toS k) m) : Sim C ((q.bind f).toS k) m := by
  rw [toS_bind]; exact h
end
/-- an expression's value as a program of its own -/
def CxQ (v : ρ → PV) (E : ρ → DEnv) (X : Nat → DEnv → Prop) : Cx ρ Empty ρ := ⟨fun _ _ => False, fun _ _ => False, fun a x e => x = v a ∧ e = E a, X⟩
def CxB (E : DEnv) (X : Nat → DEnv → Prop) : Cx Bool Empty Bool := ⟨fun _ _ => False, fun _ _ => False, fun a x e => x = .bl a ∧ e = E, X⟩
section
variable {C : Cx σ τ ρ} {env : DEnv}
theorem x_bindE {q : R PV} {v : α → PV} {E : α → DEnv} {m0 : M (Flow α Empty α)} {k : PV → DEnv → RS} {k' : α → M (Flow σ τ ρ)} (h : Sim (CxQ v E C.X) (q.toS fun x e => .rt x e) m0) (hk : ∀ a, Sim C (k (v a) (E a)) (k' a)) : Sim C (q.toS k) ((toM m0).bind k') := by
  cases m0 with
  | bad => exact ⟨trivial⟩
  | exc c =>
    obtain ⟨e, h1, h2⟩ := h
    cases q with
    | ok a e' => exact nomatch h1
    | bad => exact nomatch h1
    | exc d e' => cases h1; exact ⟨_, rfl, h2⟩
  | ok fl =>
    cases fl with
    | nx s => obtain ⟨e, h1, h2⟩ := h; exact h2.elim
    | bk s => exact nomatch s
    | ct s => exact nomatch s
    | rt a =>
      obtain ⟨x, e, h1, h2, h3⟩ := h
      cases q with
      | ok b e' => cases h1; subst h2 h3; exact hk a
      | bad => exact nomatch h1
      | exc d e' => exact nomatch h1
theorem x_bindT {q : R Bool} {E : DEnv} {m0 : M (Flow Bool Empty Bool)} {k : Bool → DEnv → RS} {k' : Bool → M (Flow σ τ ρ)} (h : Sim (CxB E C.X) (q.toS fun c e => .rt (.bl c) e) m0) (hk : ∀ c, Sim C (k c E) (k' c)) : Sim C (q.toS k) ((toM m0).bind k') := by
  cases m0 with
  | bad => exact ⟨trivial⟩
  | exc c =>
    obtain ⟨e, h1, h2⟩ := h
    cases q with
    | ok a e' => exact nomatch h1
    | bad => exact nomatch h1
    | exc d e' => cases h1; exact ⟨_, rfl, h2⟩
  | ok fl =>
    cases fl with
    | nx s => obtain ⟨e, h1, h2⟩ := h; exact h2.elim
    | bk s => exact nomatch s
    | ct s => exact nomatch s
    | rt a =>
      obtain ⟨x, e, h1, h2, h3⟩ := h
      cases q with
      | ok b e' => cases h1; cases h2; subst h3; exact hk a
      | bad => exact nomatch h1
      | exc d e' => exact nomatch h1
end
/-! ### loops -/
theorem forRun_sim {ρ : Type} {Q : ρ → PV → DEnv → Prop} {X : Nat → DEnv → Prop} {tg : PV → DEnv → Option DEnv} {body : DEnv → RS} {e : α → PV} {E : σ → δ → DEnv} {f : α → σ → M (Flow σ σ ρ)} {L : τ → DEnv → Prop}
    (hb : ∀ x s d, ∃ e1, tg (e x) (E s d) = some e1 ∧ Sim ⟨fun s e => ∃ d, e = E s d, fun s e => ∃ d, e = E s d, Q, X⟩ (body e1) (f x s)) :
    ∀ (l : List α) (s : σ) (d : δ), Sim ⟨fun s e => ∃ d, e = E s d, L, Q, X⟩ (forRun tg body (l.map e) (E s d)) (forF (τ := τ) f l s)
  | [], s, d => ⟨_, rfl, d, rfl⟩
  | x :: l, s, d => by
    obtain ⟨e1, h1, h2⟩ := hb x s d
    unfold forF
    show Sim _ (forRun tg body (e x :: l.map e) (E s d)) _
    unfold forRun
    rw [h1]
    dsimp only
    cases hm : f x s with
    | bad => exact ⟨trivial⟩
    | exc c =>
      rw [hm] at h2
      obtain ⟨e', h3, h4⟩ := h2
      rw [h3]
      exact ⟨_, rfl, h4⟩
    | ok fl =>
      rw [hm] at h2
      cases fl with
      | nx s' =>
        obtain ⟨e', h3, d', h4⟩ := h2
        rw [h3, h4]
        exact forRun_sim hb l s' d'
      | ct s' =>
        obtain ⟨e', h3, d', h4⟩ := h2
        rw [h3, h4]
        exact forRun_sim hb l s' d'
      | bk s' =>
        obtain ⟨e', h3, d', h4⟩ := h2
        rw [h3]
        exact ⟨_, rfl, d', h4⟩
      | rt v =>
        obtain ⟨v', e', h3, h4⟩ := h2
        rw [h3]
        exact ⟨_, _, rfl, h4⟩
theorem whileRun_sim {ρ : Type} {Q : ρ → PV → DEnv → Prop} {X : Nat → DEnv → Prop} {tt : DEnv → R Bool} {body : DEnv → RS} {E : σ → δ → DEnv} {t : σ → M (Flow Bool Empty Bool)} {f : σ → M (Flow σ σ ρ)} {L : τ → DEnv → Prop}
    (ht : ∀ s d, Sim (CxB (E s d) X) ((tt (E s d)).toS fun c e => .rt (.bl c) e) (t s))
    (hb : ∀ s d, Sim ⟨fun s e => ∃ d, e = E s d, fun s e => ∃ d, e = E s d, Q, X⟩ (body (E s d)) (f s)) :
    ∀ (n : Nat) (s : σ) (d : δ), Sim ⟨fun s e => ∃ d, e = E s d, L, Q, X⟩ (whileRun tt body n (E s d)) (whileF (τ := τ) (fun s => toM (t s)) f n s)
  | 0, s, d => ⟨trivial⟩
  | n + 1, s, d => by
    have h1 := ht s d
    have h2 := hb s d
    unfold whileF whileRun
    cases hm : t s with
    | bad => exact ⟨trivial⟩
    | exc c =>
      rw [hm] at h1
      obtain ⟨e', h3, h4⟩ := h1
      cases hq : tt (E s d) with
      | ok a e' => rw [hq] at h3; exact nomatch h3
      | bad => rw [hq] at h3; exact nomatch h3
      | exc d' e' => rw [hq] at h3; cases h3; exact ⟨_, rfl, h4⟩
    | ok fl =>
      rw [hm] at h1
      cases fl with
      | nx s' => obtain ⟨_, _, h⟩ := h1; exact h.elim
      | bk s' => exact nomatch s'
      | ct s' => exact nomatch s'
      | rt b =>
        obtain ⟨x, e', h3, h4, h5⟩ := h1
        cases hq : tt (E s d) with
        | bad => rw [hq] at h3; exact nomatch h3
        | exc d' e' => rw [hq] at h3; exact nomatch h3
        | ok a e'' =>
          rw [hq] at h3
          cases h3; cases h4; subst h5
          cases b with
          | false => exact ⟨_, rfl, d, rfl⟩
          | true =>
            dsimp only [toM_rt, M.bind_ok, if_true]
            cases hf : f s with
            | bad => exact ⟨trivial⟩
            | exc c =>
              rw [hf] at h2
              obtain ⟨e', h3, h4⟩ := h2
              rw [h3]
              exact ⟨_, rfl, h4⟩
            | ok fl =>
              rw [hf] at h2
              cases fl with
              | nx s' =>
                obtain ⟨e', h3, d', h4⟩ := h2
                rw [h3, h4]
                exact whileRun_sim ht hb n s' d'
              | ct s' =>
                obtain ⟨e', h3, d', h4⟩ := h2
                rw [h3, h4]
                exact whileRun_sim ht hb n s' d'
              | bk s' =>
                obtain ⟨e', h3, d', h4⟩ := h2
                rw [h3]
                exact ⟨_, rfl, d', h4⟩
              | rt v =>
                obtain ⟨v', e', h3, h4⟩ := h2
                rw [h3]
                exact ⟨_, _, rfl, h4⟩
theorem seq_sim {C : Cx σ' τ ρ} {N : σ → DEnv → Prop} {r : RS} {m : M (Flow σ τ ρ)} {k : σ → M (Flow σ' τ ρ)} {g : DEnv → RS} (h : Sim ⟨N, C.L, C.Q, C.X⟩ r m) (hk : ∀ s e, N s e → Sim C (g e) (k s)) : Sim C (r.seq g) (m.andThen k) := by
  cases m with
  | bad => exact ⟨trivial⟩
  | exc c => obtain ⟨e, h1, h2⟩ := h; rw [h1]; exact ⟨_, rfl, h2⟩
  | ok fl =>
    cases fl with
    | nx s => obtain ⟨e, h1, h2⟩ := h; rw [h1]; exact hk s e h2
    | bk s => obtain ⟨e, h1, h2⟩ := h; rw [h1]; exact ⟨_, rfl, h2⟩
    | ct s => obtain ⟨e, h1, h2⟩ := h; rw [h1]; exact ⟨_, rfl, h2⟩
    | rt s => obtain ⟨v, e, h1, h2⟩ := h; rw [h1]; exact ⟨_, _, rfl, h2⟩
/-- the turns of a comprehension -/
theorem lcRun_sim {own : List Nat} {tg : PV → DEnv → Option DEnv} {tt : DEnv → R Bool} {el : DEnv → R PV} {e : α → PV} {e' : β → PV} {env : DEnv} {f : α → M (Flow Unit Empty β)}
    (hb : ∀ x, ∃ e1, tg (e x) env = some e1 ∧ Sim ⟨fun _ e => wipeE e own = env, fun _ _ => False, fun y v e => v = e' y ∧ wipeE e own = env, fun _ _ => False⟩ ((tt e1).toS fun c e => if c then (el e).toS fun v e => .rt v e else .nx e) (f x)) :
    ∀ (l : List α) (acc : List β) (ys : List β), acc.length + l.length ≤ sizeLine → lcF f l = .ok ys → lcRun own tg tt el (l.map e) (acc.map e') env = .ok ((acc ++ ys).map e') env
  | [], acc, ys, _, h => by cases h; simp [lcRun]
  | x :: l, acc, ys, hl, h => by
    obtain ⟨e1, h1, h2⟩ := hb x
    unfold lcF at h
    rw [List.length_cons] at hl
    show lcRun own tg tt el (e x :: l.map e) (acc.map e') env = _
    unfold lcRun
    rw [h1]
    dsimp only
    cases hm : f x with
    | bad => rw [hm] at h; exact nomatch h
    | exc c => rw [hm] at h; exact nomatch h
    | ok fl =>
      rw [hm] at h h2
      cases fl with
      | bk s => exact nomatch s
      | ct s => exact nomatch s
      | nx s =>
        obtain ⟨e3, h3, h4⟩ := h2
        have h : lcF f l = .ok ys := h
        cases hq : tt e1 with
        | bad => rw [hq] at h3; exact nomatch h3
        | exc d e4 => rw [hq] at h3; exact nomatch h3
        | ok c e4 =>
          rw [hq] at h3
          have h3 : (if c then (el e4).toS fun v e => .rt v e else .nx e4) = RS.nx e3 := h3
          cases c with
          | true =>
            simp only [if_true] at h3
            cases hq2 : el e4 with
            | bad => rw [hq2] at h3; exact nomatch h3
            | exc d e5 => rw [hq2] at h3; exact nomatch h3
            | ok v e5 => rw [hq2] at h3; exact nomatch h3
          | false =>
            simp only [Bool.false_eq_true, if_false] at h3
            cases h3
            dsimp only
            rw [h4]
            exact lcRun_sim hb l acc ys (by omega) h
      | rt y =>
        obtain ⟨v, e3, h3, h4, h5⟩ := h2
        have h : (lcF f l).bind (fun ys => M.ok (y :: ys)) = .ok ys := h
        cases hz : lcF f l with
        | bad => rw [hz] at h; exact nomatch h
        | exc c => rw [hz] at h; exact nomatch h
        | ok zs =>
          rw [hz] at h
          cases h
          cases hq : tt e1 with
          | bad => rw [hq] at h3; exact nomatch h3
          | exc d e4 => rw [hq] at h3; exact nomatch h3
          | ok c e4 =>
            rw [hq] at h3
            have h3 : (if c then (el e4).toS fun v e => .rt v e else .nx e4) = RS.rt v e3 := h3
            cases c with
            | false => simp only [Bool.false_eq_true, if_false] at h3; exact nomatch h3
            | true =>
              simp only [if_true] at h3
              cases hq2 : el e4 with
              | bad => rw [hq2] at h3; exact nomatch h3
              | exc d e5 => rw [hq2] at h3; exact nomatch h3
              | ok v' e5 =>
                rw [hq2] at h3
                cases h3
                subst h4
                dsimp only
                rw [hq2]
                dsimp only
                rw [if_pos (decide_eq_true (by rw [List.length_map]; omega)), h5]
                have z := lcRun_sim hb l (acc ++ [y]) zs (by rw [List.length_append, List.length_singleton]; omega) hz
                rw [List.map_append] at z
                simpa using z
/-! ### a def's body -/
theorem run_sim {G : Prg} {F : Fns} {fu : Nat} {d : Dn} {xs : List PV} {e : DEnv} {v : ρ → PV} {ps : ρ → DEnv} {XP : DEnv → Prop} {m : M (Flow ρ Empty ρ)} (h0 : xs.map some ++ List.replicate (d.N.length - xs.length) none = e)
    (h : Sim ⟨fun a e => v a = .non ∧ parL d.kp e = ps a, fun _ _ => False, fun a x e => x = v a ∧ parL d.kp e = ps a, fun _ e => XP (parL d.kp e)⟩ (d.body.ev G F fu e) m) : CS v ps XP (d.run G F fu xs) (toM m) := by
  unfold Dn.run
  rw [h0]
  cases m with
  | bad => trivial
  | exc c => obtain ⟨e', h1, h2⟩ := h; rw [h1]; exact ⟨_, rfl, h2⟩
  | ok fl =>
    cases fl with
    | bk s => exact nomatch s
    | ct s => exact nomatch s
    | nx s =>
      obtain ⟨e', h1, h2, h3⟩ := h
      rw [h1]
      show CR.ok _ _ = .ok (v s) (ps s)
      rw [h2, h3]
    | rt s =>
      obtain ⟨x, e', h1, h2, h3⟩ := h
      rw [h1]
      show CR.ok _ _ = .ok (v s) (ps s)
      rw [h2, h3]
end SH

set_option Elab.async false
set_option linter.all false
set_option maxRecDepth 100000
set_option maxHeartbeats 4000000
/-! SH, part 2: how Lean's types stand for values; rules of expressions. -/
namespace SH
open PySem DN L2
variable {α β γ σ τ ρ σ' τ' ρ' δ : Type}
def eN : Unit → PV := fun _ => .non
def eO (e : α → PV) : Option α → PV
  | none => .non
  | some a => e a
def eL (o : Bool) (e : α → PV) (l : List α) : PV := .lst o (l.map e)
def eV (e : α → PV) (l : List α) : PV := .tup (l.map e)
/-- frozen through and through -/
class Fz (e : α → PV) : Prop where
  frz : ∀ a, (e a).frz = e a
  own : ∀ a, (e a).own = false
class FzTo (e : α → PV) (e' : outParam (α → PV)) : Prop where
  to : ∀ a, (e a).frz = e' a
instance : Fz PV.int := ⟨fun _ => rfl, fun _ => rfl⟩
instance : Fz PV.bl := ⟨fun _ => rfl, fun _ => rfl⟩
instance : Fz PV.str := ⟨fun _ => rfl, fun _ => rfl⟩
instance : Fz PV.scr := ⟨fun _ => rfl, fun _ => rfl⟩
instance : Fz eN := ⟨fun _ => rfl, fun _ => rfl⟩
instance {e : α → PV} [h : Fz e] : Fz (eO e) := ⟨fun a => by cases a with | none => rfl | some a => exact h.frz a, fun a => by cases a with | none => rfl | some a => exact h.own a⟩
theorem frzs_to {e e' : α → PV} [h : FzTo e e'] : ∀ l : List α, frzs (l.map e) = l.map e'
  | [] => rfl
  | a :: l => by
    show (e a).frz :: frzs (l.map e) = _
    rw [h.to, frzs_to l]
    rfl
instance fzToSelf {e : α → PV} [h : Fz e] : FzTo e e := ⟨h.frz⟩
instance fzToL {o : Bool} {e e' : α → PV} [h : FzTo e e'] : FzTo (eL o e) (eL false e') := ⟨fun l => by
  show PV.lst false (frzs (l.map e)) = PV.lst false (l.map e')
  rw [frzs_to]⟩
instance fzL {e : α → PV} [h : Fz e] : Fz (eL false e) := ⟨fun l => (fzToL (o := false) (e := e) (e' := e)).to l, fun _ => rfl⟩
instance fzV {e : α → PV} : Fz (eV e) := ⟨fun _ => rfl, fun _ => rfl⟩
theorem flat_fz {e : α → PV} [h : Fz e] (l : List α) : flatP (l.map e) = true := flat_map e h.own l
/-! ### places -/
section
variable {C : Cx σ τ ρ} {G : Prg} {F : Fns} {fu : Nat} {env e1 e2 e3 : DEnv} {r : RS} {m m1 m2 : M (Flow σ τ ρ)} {ss : Ss} {p p1 p2 p3 p4 p5 p6 p7 pt pn pa pc pi : Pos}
def Loc (G : Prg) (env : DEnv) (b : P) (v : PV) : Prop := ∃ i ks, b.loc G env = some (i, ks, v)
theorem l_var {i : Nat} {v : PV} (h : env[i]? = some (some v)) : Loc G env (.var i p) v := ⟨i, [], by simp only [P.loc, h]⟩
theorem ix_atI {xs : List PV} {n : Int} {v : PV} (h : atI xs n = some v) : ∃ j, ixN xs.length n = some j ∧ xs[j]? = some v := by
  unfold atI at h
  cases e : ixN xs.length n with
  | none => rw [e] at h; exact nomatch h
  | some j => rw [e] at h; exact ⟨j, rfl, h⟩
theorem atI_map {e : α → PV} {l : List α} {n : Int} {y : α} (h : atI l n = some y) : atI (l.map e) n = some (e y) := by
  unfold atI at h ⊢
  rw [List.length_map]
  cases e : ixN l.length n with
  | none => rw [e] at h; exact nomatch h
  | some j => rw [e] at h; have h : l[j]? = some y := h; show (l.map _)[j]? = _; rw [List.getElem?_map, h]; rfl
theorem l_ixH {b : P} {k : Qe} {o : Bool} {xs : List PV} {n : Int} {v : PV} (hb : Loc G env b (.lst o xs)) (hk : k.ev G env = some (.int n)) (h : atI xs n = some v) : Loc G env (.ix b k p) v := by
  obtain ⟨i, ks, hb⟩ := hb
  obtain ⟨j, h1, h2⟩ := ix_atI h
  exact ⟨i, ks ++ [j], by simp only [P.loc, hb, hk, h1, h2]⟩
theorem l_ixT {b : P} {k : Qe} {xs : List PV} {n : Int} {v : PV} (hb : Loc G env b (.tup xs)) (hk : k.ev G env = some (.int n)) (h : atI xs n = some v) : Loc G env (.ix b k p) v := by
  obtain ⟨i, ks, hb⟩ := hb
  obtain ⟨j, h1, h2⟩ := ix_atI h
  exact ⟨i, ks ++ [j], by simp only [P.loc, hb, hk, h1, h2]⟩
theorem l_ixL {b : P} {k : Qe} {o : Bool} {e : α → PV} {l : List α} {n : Int} {y : α} (hb : Loc G env b (eL o e l)) (hk : k.ev G env = some (.int n)) (h : atI l n = some y) : Loc G env (.ix b k p) (e y) := l_ixH hb hk (atI_map h)
theorem l_ixV {b : P} {k : Qe} {e : α → PV} {l : List α} {n : Int} {y : α} (hb : Loc G env b (eV e l)) (hk : k.ev G env = some (.int n)) (h : atI l n = some y) : Loc G env (.ix b k p) (e y) := l_ixT hb hk (atI_map h)
theorem l_fld {b : P} {o : Bool} {c f j : Nat} {xs : List PV} {v : PV} (hb : Loc G env b (.ins o c xs)) (hf : fldIx G c f = some j) (h : xs[j]? = some v) : Loc G env (.fld b f p) v := by
  obtain ⟨i, ks, hb⟩ := hb
  exact ⟨i, ks ++ [j], by simp only [P.loc, hb, hf, h]⟩
theorem q_rd {b : P} {v : PV} (h : Loc G env b v) (ho : v.own = false) : (Qe.rd b).ev G env = some v := by
  obtain ⟨i, ks, h⟩ := h
  simp only [Qe.ev, h, ho, Bool.false_eq_true, if_false]
theorem q_bin {o : Operator} {a b : Qe} {i j : Int} {z : PV} (ha : a.ev G env = some (.int i)) (hb : b.ev G env = some (.int j)) (h : binP o (.int i) (.int j) = some z) : (Qe.bin o a b p).ev G env = some z := by
  simp only [Qe.ev, ha, hb, h]
theorem q_neg {a : Qe} {i : Int} (ha : a.ev G env = some (.int i)) : (Qe.neg a p).ev G env = some (.int (-i)) := by
  simp only [Qe.ev, ha]
theorem q_lenH {b : P} {o : Bool} {xs : List PV} (h : Loc G env b (.lst o xs)) : (Qe.len b pn p).ev G env = some (.int xs.length) := by
  obtain ⟨i, ks, h⟩ := h
  simp only [Qe.ev, h]
theorem q_lenT {b : P} {xs : List PV} (h : Loc G env b (.tup xs)) : (Qe.len b pn p).ev G env = some (.int xs.length) := by
  obtain ⟨i, ks, h⟩ := h
  simp only [Qe.ev, h]
theorem q_lenL {b : P} {o : Bool} {e : α → PV} {l : List α} (h : Loc G env b (eL o e l)) : (Qe.len b pn p).ev G env = some (.int l.length) := by
  rw [q_lenH h, List.length_map]
theorem q_lenV {b : P} {e : α → PV} {l : List α} (h : Loc G env b (eV e l)) : (Qe.len b pn p).ev G env = some (.int l.length) := by
  rw [q_lenT h, List.length_map]
theorem q_lenS {b : P} {ns : List Int} (h : Loc G env b (.scr ns)) : (Qe.len b pn p).ev G env = some (.int ns.length) := by
  obtain ⟨i, ks, h⟩ := h
  simp only [Qe.ev, h]
theorem q_sci {b : P} {k : Qe} {ns : List Int} {n y : Int} (hb : Loc G env b (.scr ns)) (hk : k.ev G env = some (.int n)) (h : atI ns n = some y) : (Qe.sci b k p).ev G env = some (.int y) := by
  obtain ⟨i, ks, hb⟩ := hb
  simp only [Qe.ev, hb, hk, h, Option.map]
/-! ### operations -/
theorem o_mul {i j : Int} (h : mulOk i j = true) : binP .Mult (.int i) (.int j) = some (.int (i * j)) := by
  simp only [binP, h, if_true]
theorem mulOk_r {i j : Int} (h : j.natAbs < 2 ^ 63) : mulOk i j = true := by unfold mulOk; simp [h]
theorem mulOk_l {i j : Int} (h : i.natAbs < 2 ^ 63) : mulOk i j = true := by unfold mulOk; simp [h]
theorem o_mod {i j : Int} (h : decide (0 < j) = true) : binP .Mod (.int i) (.int j) = some (.int (i % j)) := by
  simp only [binP, h, if_true]
theorem o_fdiv {i j : Int} (h : divOk j = true) : binP .FloorDiv (.int i) (.int j) = some (.int (i / j)) := by
  simp only [binP, h, if_true]
theorem o_pow {i j : Int} (h : powOk i j = true) : binP .Pow (.int i) (.int j) = some (.int (i ^ j.toNat)) := by
  simp only [binP, h, if_true]
theorem o_addL {o o' : Bool} {e : α → PV} [Fz e] {l l' : List α} (h : sOk (l.length + l'.length) = true) : binP .Add (eL o e l) (eL o' e l') = some (eL true e (l ++ l')) := by
  simp only [eL, binP, List.length_map, h, flat_fz, Bool.and_self, if_true, List.map_append]
theorem o_addV {e : α → PV} {l l' : List α} (h : sOk (l.length + l'.length) = true) : binP .Add (eV e l) (eV e l') = some (eV e (l ++ l')) := by
  simp only [eV, binP, List.length_map, h, if_true, List.map_append]
theorem o_mulL {o : Bool} {e : α → PV} [Fz e] {l : List α} {n : Int} (h : (decide (-(2 ^ 62) ≤ n) && decide (n < 2 ^ 62) && sOk (l.length * n.toNat)) = true) : binP .Mult (eL o e l) (.int n) = some (eL true e (List.replicate n.toNat l).flatten) := by
  simp only [eL, binP, List.length_map, h, flat_fz, Bool.and_self, if_true, List.map_flatten, List.map_replicate]
theorem f_lenL {o : Bool} {e : α → PV} {l : List α} : f1P .len (eL o e l) = some (.int l.length) := by
  simp only [eL, f1P, List.length_map]
theorem f_lenV {e : α → PV} {l : List α} : f1P .len (eV e l) = some (.int l.length) := by
  simp only [eV, f1P, List.length_map]
theorem f_lenS {l : List Int} : f1P .len (.scr l) = some (.int l.length) := rfl
theorem f_listL {o : Bool} {e : α → PV} [Fz e] {l : List α} : f1P .list (eL o e l) = some (eL true e l) := by
  simp only [eL, f1P, flat_fz, if_true]
theorem f_listV {e : α → PV} {l : List α} : f1P .list (eV e l) = some (eL true e l) := rfl
theorem f_tupL {o : Bool} {e : α → PV} [Fz e] {l : List α} : f1P .tuple (eL o e l) = some (eV e l) := by
  simp only [eL, f1P, flat_fz, if_true, eV]
theorem f_tupV {e : α → PV} {l : List α} : f1P .tuple (eV e l) = some (eV e l) := rfl
theorem intsP_map : ∀ l : List Int, intsP (l.map PV.int) = some l
  | [] => rfl
  | a :: l => by
    show (intsP (l.map PV.int)).map _ = _
    rw [intsP_map l]
    rfl
theorem f_sumL {o : Bool} {l : List Int} : f1P .sum (eL o PV.int l) = some (.int l.sum) := by
  simp only [eL, f1P, intsP_map, Option.map]
theorem f_int {i : Int} : f1P .int (.int i) = some (.int i) := rfl
theorem f_intB {b : Bool} : f1P .int (.bl b) = some (.int (if b then 1 else 0)) := rfl
theorem f_min {i j : Int} : f2P .min (.int i) (.int j) = some (.int (min i j)) := by
  show some (PV.int (if j < i then j else i)) = _
  congr 2
  simp only [Int.min_def]
  split <;> split <;> omega
theorem f_max {i j : Int} : f2P .max (.int i) (.int j) = some (.int (max i j)) := by
  show some (PV.int (if j > i then j else i)) = _
  congr 2
  simp only [Int.max_def, gt_iff_lt]
  split <;> split <;> omega
theorem isi_ty {x : PV} {t n : String} {b : Bool} (h : x.ty = some t) (h2 : kitB t n = some b) : isiP x (.ty n) = some b := by
  unfold isiP; rw [h]; exact h2
theorem isi_own {o : Bool} {c : Nat} {xs : List PV} : isiP (.ins o c xs) (.own c) = some true := by
  unfold isiP; simp
theorem isis_t {x : PV} {c : CRef} {cs : List CRef} (h : isiP x c = some true) : isiPs x (c :: cs) = some true := by
  unfold isiPs; rw [h]
theorem isis_f {x : PV} {c : CRef} {cs : List CRef} {b : Bool} (h : isiP x c = some false) (h2 : isiPs x cs = some b) : isiPs x (c :: cs) = some b := by
  unfold isiPs; rw [h]; exact h2
theorem isis_0 {x : PV} : isiPs x [] = some false := rfl
/-! #### == -/
class DE (e : α → PV) where
  d : α → PyData
  n : Nat
  toD : ∀ a, (e a).toD = some (d a)
  lay : ∀ a, (d a).canLay0 = true
  dep : ∀ a, (d a).depth ≤ n
class EqE (e : α → PV) [DecidableEq α] extends DE e where
  eqv : ∀ a b : α, PyData.eqv (d a) (d b) = decide (a = b)
instance : EqE PV.int where
  d := .int
  n := 0
  toD := fun _ => rfl
  lay := fun _ => rfl
  dep := fun _ => Nat.le_refl _
  eqv := fun a b => rfl
instance : EqE PV.bl where
  d := .bool
  n := 0
  toD := fun _ => rfl
  lay := fun _ => rfl
  dep := fun _ => Nat.le_refl _
  eqv := fun a b => by cases a <;> cases b <;> rfl
theorem toDs_map {e : α → PV} (h : DE e) : ∀ l : List α, toDs (l.map e) = some (l.map h.d)
  | [] => rfl
  | a :: l => by
    show (match (e a).toD, toDs (l.map e) with | some d, some ds => some (d :: ds) | _, _ => none) = _
    rw [h.toD, toDs_map h l]
    rfl
theorem layAll_map {d : α → PyData} (h : ∀ a, (d a).canLay0 = true) : ∀ l : List α, PyData.canLayAll0 (l.map d) = true
  | [] => rfl
  | a :: l => by
    show (_ && _) = true
    rw [h, layAll_map h l]
    rfl
theorem depAll_map {d : α → PyData} {n : Nat} (h : ∀ a, (d a).depth ≤ n) : ∀ l : List α, PyData.depthAll (l.map d) ≤ n
  | [] => Nat.zero_le _
  | a :: l => by
    show max _ _ ≤ n
    have h1 := h a
    have h2 := depAll_map h l
    omega
theorem eqvAll_map [DecidableEq α] {d : α → PyData} (h : ∀ a b : α, PyData.eqv (d a) (d b) = decide (a = b)) : ∀ l l' : List α, PyData.eqvAll (l.map d) (l'.map d) = decide (l = l')
  | [], [] => by simp [PyData.eqvAll]
  | [], b :: l => by simp [PyData.eqvAll]
  | a :: l, [] => by simp [PyData.eqvAll]
  | a :: l, b :: l' => by
    simp only [List.map_cons, PyData.eqvAll, h, eqvAll_map h l l', List.cons.injEq, Bool.decide_and]
instance {o : Bool} {e : α → PV} [DecidableEq α] [h : EqE e] : EqE (eL o e) where
  d := fun l => .list (l.map h.d)
  n := h.n + 1
  toD := fun l => by show (toDs (l.map e)).map _ = _; rw [toDs_map h.toDE]; rfl
  lay := fun l => layAll_map h.lay l
  dep := fun l => Nat.add_le_add_right (depAll_map h.dep l) 1
  eqv := fun l l' => by show PyData.eqvAll _ _ = _; exact eqvAll_map h.eqv l l'
instance {e : α → PV} [DecidableEq α] [h : EqE e] : EqE (eV e) where
  d := fun l => .tuple (l.map h.d)
  n := h.n + 1
  toD := fun l => by show (toDs (l.map e)).map _ = _; rw [toDs_map h.toDE]; rfl
  lay := fun l => layAll_map h.lay l
  dep := fun l => Nat.add_le_add_right (depAll_map h.dep l) 1
  eqv := fun l l' => by show PyData.eqvAll _ _ = _; exact eqvAll_map h.eqv l l'
instance : EqE (eO PV.int) where
  d := fun a => match a with | none => .none | some i => .int i
  n := 0
  toD := fun a => by cases a <;> rfl
  lay := fun a => by cases a <;> rfl
  dep := fun a => by cases a <;> exact Nat.le_refl _
  eqv := fun a b => by
    cases a <;> cases b <;> first | rfl | (simp [PyData.eqv]; done) | skip
    rename_i i j
    show (i == j) = decide (some i = some j)
    simp only [Option.some.injEq]
    rfl
theorem shaped_of {d : PyData} (h : d.canLay0 = true) (h2 : d.depth ≤ 64) : SeqAt.shaped d = true := by
  unfold SeqAt.shaped
  rw [h, decide_eq_true h2]
  rfl
theorem eqP_E {e : α → PV} [DecidableEq α] [h : EqE e] (hn : h.n ≤ 64) (a b : α) : eqP (e a) (e b) = some (decide (a = b)) := by
  unfold eqP
  simp only [h.toD, shaped_of (h.lay _) (Nat.le_trans (h.dep _) hn), Bool.and_self, if_true, h.eqv]
theorem c_eq {e : α → PV} [DecidableEq α] [h : EqE e] (hn : h.n ≤ 64) {a b : α} : cmpP .Eq (e a) (e b) = some (decide (a = b)) := eqP_E hn a b
theorem c_ne {e : α → PV} [DecidableEq α] [h : EqE e] (hn : h.n ≤ 64) {a b : α} : cmpP .NotEq (e a) (e b) = some (!decide (a = b)) := by
  show (eqP _ _).map not = _
  rw [eqP_E hn]; rfl
theorem c_isO {e : α → PV} [h : Fz e] {a : Option α} (hn : ∀ x, (e x).isNon = false) : cmpP .Is (eO e a) .non = some a.isNone := by
  cases a with
  | none => rfl
  | some a => show some (e a).isNon = _; rw [hn]; rfl
theorem c_isNO {e : α → PV} [h : Fz e] {a : Option α} (hn : ∀ x, (e x).isNon = false) : cmpP .IsNot (eO e a) .non = some a.isSome := by
  cases a with
  | none => rfl
  | some a => show some (!(e a).isNon) = _; rw [hn]; rfl
/-- x in a list of ints -/
theorem flats_map : ∀ l : List Int, flats (l.map PV.int) = some (l.map V.int)
  | [] => rfl
  | a :: l => by
    show (match (PV.int a).flat, flats (l.map PV.int) with | some v, some vs => some (v :: vs) | _, _ => none) = _
    rw [flats_map l]
    rfl
theorem inV_int {i : Int} : ∀ l : List Int, inV (.int i) (l.map V.int) = decide (i ∈ l)
  | [] => rfl
  | a :: l => by
    show (eqV (.int a) (.int i) || inV (.int i) (l.map V.int)) = _
    rw [inV_int l]
    show ((a == i) || _) = _
    by_cases h : a = i
    · subst h; simp
    · have : ¬ i = a := fun e => h e.symm
      simp [h, this]
theorem inP_int {i : Int} {l : List Int} : inP (.int i) (l.map PV.int) = some (decide (i ∈ l)) := by
  unfold inP
  rw [flats_map]
  show some (inV (.int i) _) = _
  rw [inV_int]
theorem c_inL {o : Bool} {i : Int} {l : List Int} : cmpP .In (.int i) (eL o PV.int l) = some (decide (i ∈ l)) := inP_int
theorem c_inV {i : Int} {l : List Int} : cmpP .In (.int i) (eV PV.int l) = some (decide (i ∈ l)) := inP_int
theorem c_ninL {o : Bool} {i : Int} {l : List Int} : cmpP .NotIn (.int i) (eL o PV.int l) = some (!decide (i ∈ l)) := by
  show (inP _ _).map not = _
  rw [inP_int]; rfl
theorem c_ninV {i : Int} {l : List Int} : cmpP .NotIn (.int i) (eV PV.int l) = some (!decide (i ∈ l)) := by
  show (inP _ _).map not = _
  rw [inP_int]; rfl
theorem tr_L {o : Bool} {e : α → PV} {l : List α} : truP (eL o e l) = some (!l.isEmpty) := by cases l <;> rfl
theorem tr_V {e : α → PV} {l : List α} : truP (eV e l) = some (!l.isEmpty) := by cases l <;> rfl
/-! ### pure expressions -/
theorem e_q {a : Qe} {v : PV} (h : a.ev G env = some v) : (E.q a).ev G F env = .ok v env := by simp only [E.ev, h, R.of]
theorem e_mv {i : Nat} {v : PV} (h : env[i]? = some (some v)) : (E.mv i p).ev G F env = .ok v (env.set i none) := by simp only [E.ev, h]
theorem e_fz {i : Nat} {e e' : α → PV} [hf : FzTo e e'] {a : α} (h : env[i]? = some (some (e a))) : (E.fz i p).ev G F env = .ok (e' a) (env.set i (some (e' a))) := by simp only [E.ev, h, hf.to]
theorem b_e {e : E} {v : PV} (h : e.ev G F env = .ok v e1) : (B.e e).ev G F env = .ok v e1 := by simp only [B.ev, h]
theorem b_p {b : P} {v : PV} (h : Loc G env b v) : (B.p b).ev G F env = .ok v env := by
  obtain ⟨i, ks, h⟩ := h
  simp only [B.ev, h]
theorem e_bin {o : Operator} {a b : B} {x y z : PV} (ha : a.ev G F env = .ok x e1) (hb : b.ev G F e1 = .ok y e2) (h : binP o x y = some z) : (E.bin o a b p).ev G F env = .ok z e2 := by
  simp only [E.ev, ha, hb, h, R.bind, R.of]
theorem e_cmp {o : CmpOp} {a b : B} {x y : PV} {c : Bool} (ha : a.ev G F env = .ok x e1) (hb : b.ev G F e1 = .ok y e2) (h : cmpP o x y = some c) : (E.cmp o a b p).ev G F env = .ok (.bl c) e2 := by
  simp only [E.ev, ha, hb, h, R.bind, R.of, Option.map]
theorem e_not {a : E} {c : Bool} (ha : a.ev G F env = .ok (.bl c) e1) : (E.not a p).ev G F env = .ok (.bl (!c)) e1 := by
  simp only [E.ev, ha, R.bind]
theorem e_and {a : E} {es : Es} {c d : Bool} (ha : a.ev G F env = .ok (.bl c) env) (hb : c = true → es.evAnd G F (.bl true) env = .ok (.bl d) env) : (E.and a es p).ev G F env = .ok (.bl (c && d)) env := by
  simp only [E.ev, ha, R.bind]
  cases c with
  | true => exact hb rfl
  | false => cases es <;> simp only [Es.evAnd] <;> rfl
theorem ea_one {e : E} {d : Bool} (h : e.ev G F env = .ok (.bl d) env) : (Es.cons e .nil).evAnd G F (.bl true) env = .ok (.bl d) env := by
  simp only [Es.evAnd, h, R.bind]
theorem ea_cons {e : E} {es : Es} {c d : Bool} (h : e.ev G F env = .ok (.bl c) env) (hb : c = true → es.evAnd G F (.bl true) env = .ok (.bl d) env) : (Es.cons e es).evAnd G F (.bl true) env = .ok (.bl (c && d)) env := by
  simp only [Es.evAnd, h, R.bind]
  cases c with
  | true => exact hb rfl
  | false => cases es <;> simp only [Es.evAnd] <;> rfl
theorem e_or {a : E} {es : Es} {c d : Bool} (ha : a.ev G F env = .ok (.bl c) env) (hb : c = false → es.evOr G F (.bl false) env = .ok (.bl d) env) : (E.or a es p).ev G F env = .ok (.bl (c || d)) env := by
  simp only [E.ev, ha, R.bind]
  cases c with
  | false => exact hb rfl
  | true => cases es <;> simp only [Es.evOr] <;> rfl
theorem eo_one {e : E} {d : Bool} (h : e.ev G F env = .ok (.bl d) env) : (Es.cons e .nil).evOr G F (.bl false) env = .ok (.bl d) env := by
  simp only [Es.evOr, h, R.bind]
theorem eo_cons {e : E} {es : Es} {c d : Bool} (h : e.ev G F env = .ok (.bl c) env) (hb : c = false → es.evOr G F (.bl false) env = .ok (.bl d) env) : (Es.cons e es).evOr G F (.bl false) env = .ok (.bl (c || d)) env := by
  simp only [Es.evOr, h, R.bind]
  cases c with
  | false => exact hb rfl
  | true => cases es <;> simp only [Es.evOr] <;> rfl
theorem e_ife {t : Tt} {a b : E} {c : Bool} {e : α → PV} {x y : α} (ht : t.ev G F env = .ok c env) (ha : c = true → a.ev G F env = .ok (e x) env) (hb : c = false → b.ev G F env = .ok (e y) env) : (E.ife t a b p).ev G F env = .ok (e (if c then x else y)) env := by
  simp only [E.ev, ht, R.bind]
  cases c with
  | true => simpa using ha rfl
  | false => simpa using hb rfl
theorem e_ifeT {t : Tt} {a b : E} {x : PV} (ht : t.ev G F env = .ok true e1) (ha : a.ev G F e1 = .ok x e2) : (E.ife t a b p).ev G F env = .ok x e2 := by
  simp only [E.ev, ht, R.bind, if_true, ha]
theorem e_ifeF {t : Tt} {a b : E} {x : PV} (ht : t.ev G F env = .ok false e1) (ha : b.ev G F e1 = .ok x e2) : (E.ife t a b p).ev G F env = .ok x e2 := by
  simp only [E.ev, ht, R.bind, Bool.false_eq_true, if_false, ha]
theorem e_f1 {f : F1} {a : B} {x z : PV} (ha : a.ev G F env = .ok x e1) (h : f1P f x = some z) : (E.f1 f a pn p).ev G F env = .ok z e1 := by
  simp only [E.ev, ha, h, R.bind, R.of]
theorem e_f2 {f : F2} {a b : E} {x y z : PV} (ha : a.ev G F env = .ok x e1) (hb : b.ev G F e1 = .ok y e2) (h : f2P f x y = some z) : (E.f2 f a b pn p).ev G F env = .ok z e2 := by
  simp only [E.ev, ha, hb, h, R.bind, R.of]
theorem e_isi {a : Qe} {c : String} {x : PV} {b : Bool} (ha : a.ev G env = some x) (h : isiP x (.ty c) = some b) : (E.isi a c pn pc p).ev G F env = .ok (.bl b) env := by
  simp only [E.ev, ha, h, R.of, Option.bind, Option.map]
theorem e_isi2 {a : Qe} {c d : String} {n : Nat} {x : PV} {b : Bool} (ha : a.ev G env = some x) (h : isiPs x [.ty c, .ty d] = some b) : (E.isi2 a c d n pn pc p1 p2 p).ev G F env = .ok (.bl b) env := by
  simp only [E.ev, ha, h, R.of, Option.bind, Option.map]
theorem e_isiO {a : Qe} {c : Nat} {x : PV} {b : Bool} (ha : a.ev G env = some x) (h : isiP x (.own c) = some b) : (E.isiO a c pn pc p).ev G F env = .ok (.bl b) env := by
  simp only [E.ev, ha, h, R.of, Option.bind, Option.map]
theorem s_nil : Es.nil.ev G F env = .ok [] env := by simp only [Es.ev]
theorem s_cons {e : E} {es : Es} {x : PV} {xs : List PV} (h : e.ev G F env = .ok x e1) (h2 : es.ev G F e1 = .ok xs e2) : (Es.cons e es).ev G F env = .ok (x :: xs) e2 := by
  simp only [Es.ev, h, h2, R.bind]
theorem e_tup {es : Es} {n : Nat} {xs : List PV} (h : es.ev G F env = .ok xs e1) (hf : flatP xs = true) (hs : sOk xs.length = true) : (E.tup es n p).ev G F env = .ok (.tup xs) e1 := by
  simp only [E.ev, h, R.bind, hf, hs, Bool.and_self, if_true]
theorem e_lst {es : Es} {xs : List PV} (h : es.ev G F env = .ok xs e1) (hs : sOk xs.length = true) : (E.lst es p).ev G F env = .ok (.lst true xs) e1 := by
  simp only [E.ev, h, R.bind, hs, if_true]
theorem e_ixL {a k : E} {o : Bool} {e : α → PV} [hf : Fz e] {l : List α} {n : Int} {y : α} (ha : a.ev G F env = .ok (eL o e l) e1) (hk : k.ev G F e1 = .ok (.int n) e2) (h : atI l n = some y) : (E.ixE a k p).ev G F env = .ok (e y) e2 := by
  have z := atI_map (e := e) h
  simp only [E.ev, ha, hk, R.bind, eL, z, hf.own, Bool.false_eq_true, if_false]
theorem e_ixV {a k : E} {e : α → PV} {l : List α} {n : Int} {y : α} (ha : a.ev G F env = .ok (eV e l) e1) (hk : k.ev G F e1 = .ok (.int n) e2) (h : atI l n = some y) : (E.ixE a k p).ev G F env = .ok (e y) e2 := by
  have z := atI_map (e := e) h
  simp only [E.ev, ha, hk, R.bind, eV, z, R.of]
theorem e_ixT {a k : E} {xs : List PV} {n : Int} {y : PV} (ha : a.ev G F env = .ok (.tup xs) e1) (hk : k.ev G F e1 = .ok (.int n) e2) (h : atI xs n = some y) : (E.ixE a k p).ev G F env = .ok y e2 := by
  simp only [E.ev, ha, hk, R.bind, h, R.of]
theorem e_ixH {a k : E} {o : Bool} {xs : List PV} {n : Int} {y : PV} (ha : a.ev G F env = .ok (.lst o xs) e1) (hk : k.ev G F e1 = .ok (.int n) e2) (h : atI xs n = some y) (ho : y.own = false) : (E.ixE a k p).ev G F env = .ok y e2 := by
  simp only [E.ev, ha, hk, R.bind, h, ho, Bool.false_eq_true, if_false]
theorem e_pop {i : Nat} {e : α → PV} [hf : Fz e] {l : List α} {y : α} (h : env[i]? = some (some (eL true e l))) (hl : l.getLast? = some y) : (E.pop (.var i p1) pa p).ev G F env = .ok (e y) (env.set i (some (eL true e l.dropLast))) := by
  have z : (l.map e)[(l.map e).length - 1]? = some (e y) := by
    rw [← List.getLast?_eq_getElem?, List.getLast?_map, hl]; rfl
  simp only [E.ev, P.loc, h, eL, z, hf.own, Bool.false_eq_true, if_false, setLoc, setAt, List.map_dropLast]
/-! ### pure tests -/
theorem t_v {b : B} {x : PV} {c : Bool} (h : b.ev G F env = .ok x e1) (hc : truP x = some c) : (Tt.v b).ev G F env = .ok c e1 := by
  simp only [Tt.ev, h, R.bind, hc, R.of]
theorem t_cmp {o : CmpOp} {a b : B} {x y : PV} {c : Bool} (ha : a.ev G F env = .ok x e1) (hb : b.ev G F e1 = .ok y e2) (h : cmpP o x y = some c) : (Tt.cmp o a b p).ev G F env = .ok c e2 := by
  simp only [Tt.ev, ha, hb, h, R.bind, R.of]
theorem t_not {t : Tt} {c : Bool} (h : t.ev G F env = .ok c e1) : (Tt.not t p).ev G F env = .ok (!c) e1 := by
  simp only [Tt.ev, h, R.bind]
theorem t_and {ts : Ts} {c : Bool} (h : ts.evAll G F env = .ok c e1) : (Tt.and ts p).ev G F env = .ok c e1 := by
  simp only [Tt.ev, h]
theorem t_or {ts : Ts} {c : Bool} (h : ts.evAny G F env = .ok c e1) : (Tt.or ts p).ev G F env = .ok c e1 := by
  simp only [Tt.ev, h]
theorem ta_nil : Ts.nil.evAll G F env = .ok true env := by simp only [Ts.evAll]
theorem ta_one {t : Tt} {c : Bool} (h : t.ev G F env = .ok c e1) : (Ts.cons t .nil).evAll G F env = .ok c e1 := by
  simp only [Ts.evAll, h, R.bind]
  cases c <;> rfl
theorem ta_cons {t : Tt} {ts : Ts} {c d : Bool} (h : t.ev G F env = .ok c env) (h2 : c = true → ts.evAll G F env = .ok d env) : (Ts.cons t ts).evAll G F env = .ok (c && d) env := by
  simp only [Ts.evAll, h, R.bind]
  cases c with
  | true => exact h2 rfl
  | false => rfl
theorem to_one {t : Tt} {c : Bool} (h : t.ev G F env = .ok c e1) : (Ts.cons t .nil).evAny G F env = .ok c e1 := by
  simp only [Ts.evAny, h, R.bind]
  cases c <;> rfl
theorem to_cons {t : Tt} {ts : Ts} {c d : Bool} (h : t.ev G F env = .ok c env) (h2 : c = false → ts.evAny G F env = .ok d env) : (Ts.cons t ts).evAny G F env = .ok (c || d) env := by
  simp only [Ts.evAny, h, R.bind]
  cases c with
  | true => rfl
  | false => exact h2 rfl
end
end SH

set_option Elab.async false
set_option linter.all false
set_option maxRecDepth 100000
set_option maxHeartbeats 4000000
/-! SH, part 3: rules of calls, comprehensions, statements. -/
namespace SH
open PySem DN L2
variable {α β γ σ τ ρ σ' τ' ρ' δ ε : Type}
def fzv : Bool → PV → PV
  | true, x => x.frz
  | false, x => x
theorem fzv_eq (b : Bool) (x : PV) : (if b then x.frz else x) = fzv b x := by cases b <;> rfl
theorem toS_ok {ζ : Type} (x : ζ) (e : DEnv) (k : ζ → DEnv → RS) : (R.ok x e).toS k = k x e := rfl
theorem ce {x y : γ} {l l' : List γ} (h : x = y) (h2 : l = l') : x :: l = y :: l' := by rw [h, h2]
/-- a def: v its value, ps its parameters at the end; PX: its parameters if it raises -/
def CF0 (v : ρ → PV) (ps : ρ → DEnv) (PX : ε → DEnv) (r : CR) : M ρ → Prop
  | .bad => True
  | .exc c => ∃ d, r = .exc c (PX d)
  | .ok a => r = .ok (v a) (ps a)
structure CF (v : ρ → PV) (ps : ρ → DEnv) (PX : ε → DEnv) (r : CR) (m : M ρ) : Prop where
  o : CF0 v ps PX r m
section
variable {C : Cx σ τ ρ} {G : Prg} {F : Fns} {fu : Nat} {env e1 e2 e3 : DEnv} {r : RS} {m m1 m2 : M (Flow σ τ ρ)} {ss : Ss} {p p1 p2 p3 p4 p5 p6 p7 pt pn pa pc pi : Pos} {k : PV → DEnv → RS} {kb : Bool → DEnv → RS}
/-! ### expressions with calls in them, in front of what follows -/
theorem x_Be {e : E} (h : Sim C ((e.ev G F env).toS k) m) : Sim C (((B.e e).ev G F env).toS k) m := by simpa only [B.ev] using h
theorem x_bin {o : Operator} {a b : B} (h : Sim C ((a.ev G F env).toS fun x e => (b.ev G F e).toS fun y e => (R.of (binP o x y) e).toS k) m) : Sim C (((E.bin o a b p).ev G F env).toS k) m := by
  simpa only [E.ev, toS_bind] using h
theorem x_cmp {o : CmpOp} {a b : B} (h : Sim C ((a.ev G F env).toS fun x e => (b.ev G F e).toS fun y e => (R.of ((cmpP o x y).map .bl) e).toS k) m) : Sim C (((E.cmp o a b p).ev G F env).toS k) m := by
  simpa only [E.ev, toS_bind] using h
theorem o_bl {o : CmpOp} {x y : PV} {c : Bool} (h : cmpP o x y = some c) : (cmpP o x y).map PV.bl = some (.bl c) := by rw [h]; rfl
def notR (x : PV) (env : DEnv) : R PV := match x with
  | .bl b => .ok (.bl (!b)) env
  | _ => .bad
theorem x_not {a : E} (h : Sim C ((a.ev G F env).toS fun x e => (notR x e).toS k) m) : Sim C (((E.not a p).ev G F env).toS k) m := by
  have z : (E.not a p).ev G F env = (a.ev G F env).bind notR := by rw [E.ev]; rfl
  rw [z]
  simpa only [toS_bind] using h
theorem x_and {a : E} {es : Es} (h : Sim C ((a.ev G F env).toS fun x e => (es.evAnd G F x e).toS k) m) : Sim C (((E.and a es p).ev G F env).toS k) m := by
  simpa only [E.ev, toS_bind] using h
theorem x_or {a : E} {es : Es} (h : Sim C ((a.ev G F env).toS fun x e => (es.evOr G F x e).toS k) m) : Sim C (((E.or a es p).ev G F env).toS k) m := by
  simpa only [E.ev, toS_bind] using h
theorem xa_nil {x : PV} (h : Sim C (k x env) m) : Sim C ((Es.nil.evAnd G F x env).toS k) m := by
  simpa only [Es.evAnd, toS_ok] using h
theorem xa_cons {e : E} {es : Es} {c : Bool} (h1 : Sim C ((e.ev G F env).toS fun y e => (es.evAnd G F y e).toS k) m1) (h2 : Sim C (k (.bl false) env) m2) : Sim C (((Es.cons e es).evAnd G F (.bl c) env).toS k) (if c then m1 else m2) := by
  cases c with
  | true => simpa only [Es.evAnd, toS_bind, toS_ok, if_true] using h1
  | false => simpa only [Es.evAnd, toS_ok, Bool.false_eq_true, if_false] using h2
theorem xo_nil {x : PV} (h : Sim C (k x env) m) : Sim C ((Es.nil.evOr G F x env).toS k) m := by
  simpa only [Es.evOr, toS_ok] using h
theorem xo_cons {e : E} {es : Es} {c : Bool} (h1 : Sim C (k (.bl true) env) m1) (h2 : Sim C ((e.ev G F env).toS fun y e => (es.evOr G F y e).toS k) m2) : Sim C (((Es.cons e es).evOr G F (.bl c) env).toS k) (if c then m1 else m2) := by
  cases c with
  | true => simpa only [Es.evOr, toS_ok, if_true] using h1
  | false => simpa only [Es.evOr, toS_bind, toS_ok, Bool.false_eq_true, if_false] using h2
theorem x_ife {t : Tt} {a b : E} (h : Sim C ((t.ev G F env).toS fun c e => (if c then a.ev G F e else b.ev G F e).toS k) m) : Sim C (((E.ife t a b p).ev G F env).toS k) m := by
  simpa only [E.ev, toS_bind] using h
theorem z_ife {a b : R PV} {c : Bool} (h1 : Sim C (a.toS k) m1) (h2 : Sim C (b.toS k) m2) : Sim C ((if c then a else b).toS k) (if c then m1 else m2) := by
  cases c with
  | true => exact h1
  | false => exact h2
theorem z_ifeT {a b : R PV} (h : Sim C (a.toS k) m) : Sim C ((if true then a else b).toS k) m := h
theorem z_ifeF {a b : R PV} (h : Sim C (b.toS k) m) : Sim C ((if false then a else b).toS k) m := h
theorem x_f1 {f : F1} {a : B} (h : Sim C ((a.ev G F env).toS fun x e => (R.of (f1P f x) e).toS k) m) : Sim C (((E.f1 f a pn p).ev G F env).toS k) m := by
  simpa only [E.ev, toS_bind] using h
theorem x_f2 {f : F2} {a b : E} (h : Sim C ((a.ev G F env).toS fun x e => (b.ev G F e).toS fun y e => (R.of (f2P f x y) e).toS k) m) : Sim C (((E.f2 f a b pn p).ev G F env).toS k) m := by
  simpa only [E.ev, toS_bind] using h
variable {ks : List PV → DEnv → RS}
theorem xs_nil (h : Sim C (ks [] env) m) : Sim C ((Es.nil.ev G F env).toS ks) m := by simpa only [toS_ok, Es.ev] using h
theorem xs_cons {e : E} {es : Es} (h : Sim C ((e.ev G F env).toS fun x e => (es.ev G F e).toS fun xs e => ks (x :: xs) e) m) : Sim C (((Es.cons e es).ev G F env).toS ks) m := by
  simpa only [toS_ok, Es.ev, toS_bind] using h
def tupR (xs : List PV) (env : DEnv) : R PV := if flatP xs && sOk xs.length then .ok (.tup xs) env else .bad
def lstR (xs : List PV) (env : DEnv) : R PV := if sOk xs.length then .ok (.lst true xs) env else .bad
theorem x_tup {es : Es} {n : Nat} (h : Sim C ((es.ev G F env).toS fun xs e => (tupR xs e).toS k) m) : Sim C (((E.tup es n p).ev G F env).toS k) m := by
  have z : (E.tup es n p).ev G F env = (es.ev G F env).bind tupR := by rw [E.ev]; rfl
  rw [z]
  simpa only [toS_bind] using h
theorem x_lst {es : Es} (h : Sim C ((es.ev G F env).toS fun xs e => (lstR xs e).toS k) m) : Sim C (((E.lst es p).ev G F env).toS k) m := by
  have z : (E.lst es p).ev G F env = (es.ev G F env).bind lstR := by rw [E.ev]; rfl
  rw [z]
  simpa only [toS_bind] using h
theorem r_tup {xs : List PV} (hf : flatP xs = true) (hs : sOk xs.length = true) : tupR xs env = .ok (.tup xs) env := by
  unfold tupR; simp only [hf, hs, Bool.and_self, if_true]
theorem r_lst {xs : List PV} (hs : sOk xs.length = true) : lstR xs env = .ok (.lst true xs) env := by
  unfold lstR; simp only [hs, if_true]
def ixR (x i : PV) (env : DEnv) : R PV := match x, i with
  | .lst _ xs, .int n => match atI xs n with
    | some y => if y.own then .bad else .ok y env
    | none => .bad
  | .tup xs, .int n => R.of (atI xs n) env
  | _, _ => .bad
theorem x_ixE {a b : E} (h : Sim C ((a.ev G F env).toS fun x e => (b.ev G F e).toS fun y e => (ixR x y e).toS k) m) : Sim C (((E.ixE a b p).ev G F env).toS k) m := by
  have z : (E.ixE a b p).ev G F env = (a.ev G F env).bind fun x e => (b.ev G F e).bind fun y e => ixR x y e := by rw [E.ev]; rfl
  rw [z]
  simpa only [toS_bind] using h
theorem r_ixL {o : Bool} {e : α → PV} [hf : Fz e] {l : List α} {n : Int} {y : α} (h : atI l n = some y) : ixR (eL o e l) (.int n) env = .ok (e y) env := by
  have z := atI_map (e := e) h
  simp only [eL, ixR, z, hf.own, Bool.false_eq_true, if_false]
theorem r_ixV {e : α → PV} {l : List α} {n : Int} {y : α} (h : atI l n = some y) : ixR (eV e l) (.int n) env = .ok (e y) env := by
  have z := atI_map (e := e) h
  simp only [eV, ixR, z, R.of]
/-! #### arguments -/
variable {ka : List (Option PV) → DEnv → RS}
theorem a_nil : As.nil.ev G F env = .ok [] env := by simp only [As.ev]
theorem a_e {frz : Bool} {e : E} {as : As} {v v' : PV} {xs : List (Option PV)} (h : e.ev G F env = .ok v e1) (hf : fzv frz v = v') (h2 : as.ev G F e1 = .ok xs e2) : (As.e frz e as).ev G F env = .ok (some v' :: xs) e2 := by
  simp only [As.ev, h, h2, R.bind, fzv_eq, hf]
theorem a_mv {i : Nat} {as : As} {v : PV} {xs : List (Option PV)} (h : env[i]? = some (some v)) (h2 : as.ev G F env = .ok xs e2) : (As.mv i p as).ev G F env = .ok (none :: xs) e2 := by
  simp only [As.ev, h, h2, R.bind]
theorem xv_nil (h : Sim C (ka [] env) m) : Sim C ((As.nil.ev G F env).toS ka) m := by simpa only [toS_ok, As.ev] using h
theorem xv_e {frz : Bool} {e : E} {as : As} (h : Sim C ((e.ev G F env).toS fun x e => (as.ev G F e).toS fun xs e => ka (some (fzv frz x) :: xs) e) m) : Sim C (((As.e frz e as).ev G F env).toS ka) m := by
  simpa only [toS_ok, As.ev, toS_bind, fzv_eq] using h
theorem xv_mv {i : Nat} {as : As} {v : PV} (h0 : env[i]? = some (some v)) (h : Sim C ((as.ev G F env).toS fun xs e => ka (none :: xs) e) m) : Sim C (((As.mv i p as).ev G F env).toS ka) m := by
  simpa only [toS_ok, As.ev, h0, toS_bind] using h
/-! #### calls -/
def callM (F : Fns) (f : Nat) (as : As) (xs : List (Option PV)) (env : DEnv) : R PV := match takeOut as xs env with
  | some (ys, env) => callR as env (F f ys)
  | none => .bad
theorem x_call {f : Nat} {as : As} (h : Sim C ((as.ev G F env).toS fun xs e => (callM F f as xs e).toS k) m) : Sim C (((E.call f as pn p).ev G F env).toS k) m := by
  have z : (E.call f as pn p).ev G F env = (as.ev G F env).bind (callM F f as) := by rw [E.ev]; rfl
  rw [z]
  simpa only [toS_bind] using h
theorem z_call {E3 : α → DEnv} {f : Nat} {as : As} {xs : List (Option PV)} {ys ys' : List PV} {v : α → PV} {ps : α → DEnv} {PX : ε → DEnv} {m0 : M α} {k' : α → M (Flow σ τ ρ)} (hT : takeOut as xs env = some (ys, e2)) (hy : ys = ys') (hc : CF v ps PX (F f ys') m0)
    (hp : ∀ a, putBack as (ps a) e2 = E3 a) (hx : ∀ d c, C.X c (putBack as (PX d) e2)) (hk : ∀ a, Sim C (k (v a) (E3 a)) (k' a)) : Sim C ((callM F f as xs env).toS k) (m0.bind k') := by
  subst hy
  unfold callM
  rw [hT]
  cases m0 with
  | bad => exact ⟨trivial⟩
  | exc c =>
    obtain ⟨d, h⟩ := hc.o
    show Sim C ((callR as e2 (F f ys)).toS k) (.exc c)
    rw [h]
    exact ⟨_, rfl, hx d c⟩
  | ok a =>
    have h : F f ys = .ok (v a) (ps a) := hc.o
    show Sim C ((callR as e2 (F f ys)).toS k) (k' a)
    rw [h]
    have z := hk a
    rw [← hp a] at z
    exact z
def makeM (G : Prg) (F : Fns) (mk : Nat) (as : As) (xs : List (Option PV)) (env : DEnv) : R PV := match takeOut as xs env with
  | some (ys, env) => match F (G.mkAt mk).2.1 (.ins true (G.mkAt mk).1 [] :: (ys ++ (G.mkAt mk).2.2.2.2)) with
    | .ok .non (some x :: ps) => .ok x (putBack as ps env)
    | .exc d (_ :: ps) => .exc d (putBack as ps env)
    | _ => .bad
  | none => .bad
theorem x_make {mk : Nat} {as kas : As} {kn : List (Nat × Pos)} (h : Sim C ((as.ev G F env).toS fun xs e => (kas.ev G F e).toS fun zs e => (makeM G F mk (as.app kas) (xs ++ zs) e).toS k) m) : Sim C (((E.make mk as kas kn pn p).ev G F env).toS k) m := by
  have z : (E.make mk as kas kn pn p).ev G F env = (as.ev G F env).bind fun xs e => (kas.ev G F e).bind fun zs e => makeM G F mk (as.app kas) (xs ++ zs) e := by rw [E.ev]; rfl
  rw [z]
  simpa only [toS_bind] using h
theorem z_make {E3 : α → DEnv} {mk f c n : Nat} {kf : List Nat} {ds : List PV} {as : As} {xs : List (Option PV)} {ys ys' : List PV} {v : α → PV} {ps : α → DEnv} {PX : ε → DEnv} {m0 : M α} {k' : α → M (Flow σ τ ρ)} {w : α → PV} {ps' : α → DEnv} {PX' : ε → DEnv} {w' : ε → Option PV}
    (hm : G.mkAt mk = (c, f, n, kf, ds)) (hT : takeOut as xs env = some (ys, e2)) (hy : ys ++ ds = ys') (hc : CF v ps PX (F f (.ins true c [] :: ys')) m0) (hv : ∀ a, v a = .non) (hp : ∀ a, ps a = some (w a) :: ps' a) (hp2 : ∀ d, PX d = w' d :: PX' d)
    (hq : ∀ a, putBack as (ps' a) e2 = E3 a) (hx : ∀ d c, C.X c (putBack as (PX' d) e2)) (hk : ∀ a, Sim C (k (w a) (E3 a)) (k' a)) : Sim C ((makeM G F mk as xs env).toS k) (m0.bind k') := by
  unfold makeM
  rw [hT]
  dsimp only
  rw [hm]
  dsimp only
  rw [hy]
  cases m0 with
  | bad => exact ⟨trivial⟩
  | exc d =>
    obtain ⟨d', h⟩ := hc.o
    rw [h, hp2]
    exact ⟨_, rfl, hx d' d⟩
  | ok a =>
    have h : F f (.ins true c [] :: ys') = .ok (v a) (ps a) := hc.o
    rw [h, hv, hp]
    have z := hk a
    rw [← hq a] at z
    exact z
def methM (F : Fns) (f : Nat) (x : PV) (as : As) (xs : List (Option PV)) (env : DEnv) : R PV := match takeOut as xs env with
  | some (ys, env) => match F f (x :: ys) with
    | .ok v (_ :: ps) => .ok v (putBack as ps env)
    | .exc d (_ :: ps) => .exc d (putBack as ps env)
    | _ => .bad
  | none => .bad
def methR (G : Prg) (F : Fns) (c f : Nat) (as : As) (x : PV) (env : DEnv) : R PV := if x.isOf c then (as.ev G F env).bind fun xs e => methM F f x as xs e else .bad
theorem x_meth {e : E} {mm c f : Nat} {as : As} (h : Sim C ((e.ev G F env).toS fun x e => (methR G F c f as x e).toS k) m) : Sim C (((E.methE e mm c f as pa p).ev G F env).toS k) m := by
  have z : (E.methE e mm c f as pa p).ev G F env = (e.ev G F env).bind (methR G F c f as) := by rw [E.ev]; rfl
  rw [z]
  simpa only [toS_bind] using h
theorem z_methR {c f : Nat} {as : As} {x : PV} (hi : x.isOf c = true) (h : Sim C ((as.ev G F env).toS fun xs e => (methM F f x as xs e).toS k) m) : Sim C ((methR G F c f as x env).toS k) m := by
  unfold methR
  rw [if_pos hi]
  simpa only [toS_bind] using h
theorem z_meth {E3 : α → DEnv} {f : Nat} {x : PV} {as : As} {xs : List (Option PV)} {ys ys' : List PV} {v : α → PV} {ps : α → DEnv} {PX : ε → DEnv} {m0 : M α} {k' : α → M (Flow σ τ ρ)} {w : α → Option PV} {ps' : α → DEnv} {PX' : ε → DEnv} {w' : ε → Option PV}
    (hT : takeOut as xs env = some (ys, e2)) (hy : ys = ys') (hc : CF v ps PX (F f (x :: ys')) m0) (hp : ∀ a, ps a = w a :: ps' a) (hp2 : ∀ d, PX d = w' d :: PX' d)
    (hq : ∀ a, putBack as (ps' a) e2 = E3 a) (hx : ∀ d c, C.X c (putBack as (PX' d) e2)) (hk : ∀ a, Sim C (k (v a) (E3 a)) (k' a)) : Sim C ((methM F f x as xs env).toS k) (m0.bind k') := by
  subst hy
  unfold methM
  rw [hT]
  dsimp only
  cases m0 with
  | bad => exact ⟨trivial⟩
  | exc d =>
    obtain ⟨d', h⟩ := hc.o
    rw [h, hp2]
    exact ⟨_, rfl, hx d' d⟩
  | ok a =>
    have h : F f (x :: ys) = .ok (v a) (ps a) := hc.o
    rw [h, hp]
    have z := hk a
    rw [← hq a] at z
    exact z
def propM (F : Fns) (c f : Nat) (x : PV) (env : DEnv) : R PV := if x.isOf c then match F f [x] with
    | .ok v _ => .ok v env
    | _ => .bad
  else .bad
theorem x_prop {e : E} {mm c f : Nat} (h : Sim C ((e.ev G F env).toS fun x e => (propM F c f x e).toS k) m) : Sim C (((E.prop e mm c f p).ev G F env).toS k) m := by
  have z : (E.prop e mm c f p).ev G F env = (e.ev G F env).bind (propM F c f) := by rw [E.ev]; rfl
  rw [z]
  simpa only [toS_bind] using h
/-! #### what is walked -/
def itP : PV → Option (List PV)
  | .lst _ xs => some (frzs xs)
  | .tup xs => some xs
  | _ => none
def rangeI (lo hi : Int) : List Int := (List.range (hi - lo).toNat).map fun k : Nat => lo + k
def rangeD (hi lo : Int) : List Int := (List.range (hi - lo).toNat).map fun k : Nat => hi - k
def r1P : PV → Option (List PV)
  | .int n => if rgOk n then some (rangeP 0 n.toNat) else none
  | _ => none
def r2P : PV → PV → Option (List PV)
  | .int i, .int j => if rgOk i && rgOk j then some (rangeP i (j - i).toNat) else none
  | _, _ => none
def r3P : PV → PV → PV → Option (List PV)
  | .int i, .int j, .int (-1) => if rgOk i && rgOk j then some (rangeC i (-1) (i - j).toNat) else none
  | _, _, _ => none
def enP : PV → Option (List PV)
  | .lst _ xs => some (enumFrom 0 (frzs xs))
  | .tup xs => some (enumFrom 0 xs)
  | _ => none
variable {kl : List PV → DEnv → RS}
theorem i_e {e : E} : (It.e e).ev G F env = (e.ev G F env).bind fun x e => R.of (itP x) e := by
  rw [It.ev]; congr 1; funext x e; cases x <;> rfl
theorem i_r1 {a : E} : (It.r1 a pn p).ev G F env = (a.ev G F env).bind fun x e => R.of (r1P x) e := by
  rw [It.ev]; congr 1; funext x e; cases x <;> try rfl
  simp only [r1P]; split <;> rfl
theorem i_r2 {a b : E} : (It.r2 a b pn p).ev G F env = (a.ev G F env).bind fun x e => (b.ev G F e).bind fun y e => R.of (r2P x y) e := by
  rw [It.ev]; congr 1; funext x e; congr 1; funext y e
  cases x <;> try rfl
  cases y <;> try rfl
  simp only [r2P]; split <;> rfl
theorem i_r3 {a b c : E} : (It.r3 a b c pn p).ev G F env = (a.ev G F env).bind fun x e => (b.ev G F e).bind fun y e => (c.ev G F e).bind fun z e => R.of (r3P x y z) e := by
  rw [It.ev]; congr 1; funext x e; congr 1; funext y e; congr 1; funext z e
  cases x <;> try rfl
  cases y <;> try rfl
  cases z <;> try rfl
  rename_i i j q
  by_cases hq : q = -1
  · subst hq
    simp only [r3P]
    split <;> rfl
  · unfold r3P
    split <;> first | rfl | (split <;> first | rfl | simp_all)
theorem i_en {e : E} : (It.enum e pn p).ev G F env = (e.ev G F env).bind fun x e => R.of (enP x) e := by
  rw [It.ev]; congr 1; funext x e; cases x <;> rfl
theorem x_ie {e : E} (h : Sim C ((e.ev G F env).toS fun x e => (R.of (itP x) e).toS kl) m) : Sim C (((It.e e).ev G F env).toS kl) m := by
  rw [i_e]; simpa only [toS_bind] using h
theorem x_r1 {a : E} (h : Sim C ((a.ev G F env).toS fun x e => (R.of (r1P x) e).toS kl) m) : Sim C (((It.r1 a pn p).ev G F env).toS kl) m := by
  rw [i_r1]; simpa only [toS_bind] using h
theorem x_r2 {a b : E} (h : Sim C ((a.ev G F env).toS fun x e => (b.ev G F e).toS fun y e => (R.of (r2P x y) e).toS kl) m) : Sim C (((It.r2 a b pn p).ev G F env).toS kl) m := by
  rw [i_r2]; simpa only [toS_bind] using h
theorem x_r3 {a b c : E} (h : Sim C ((a.ev G F env).toS fun x e => (b.ev G F e).toS fun y e => (c.ev G F e).toS fun z e => (R.of (r3P x y z) e).toS kl) m) : Sim C (((It.r3 a b c pn p).ev G F env).toS kl) m := by
  rw [i_r3]; simpa only [toS_bind] using h
theorem x_en {e : E} (h : Sim C ((e.ev G F env).toS fun x e => (R.of (enP x) e).toS kl) m) : Sim C (((It.enum e pn p).ev G F env).toS kl) m := by
  rw [i_en]; simpa only [toS_bind] using h
theorem w_L {o : Bool} {e e' : α → PV} [FzTo e e'] {l : List α} : itP (eL o e l) = some (l.map e') := by
  show some (frzs _) = _
  rw [frzs_to]
theorem w_V {e : α → PV} {l : List α} : itP (eV e l) = some (l.map e) := rfl
theorem w_r1 {n : Int} (h : rgOk n = true) : r1P (.int n) = some ((rangeI 0 n).map PV.int) := by
  simp only [r1P, h, if_true, rangeI, rangeP, List.map_map, Int.sub_zero]
  rfl
theorem w_r2 {i j : Int} (h : (rgOk i && rgOk j) = true) : r2P (.int i) (.int j) = some ((rangeI i j).map PV.int) := by
  simp only [r2P, h, if_true, rangeI, rangeP, List.map_map]
  rfl
theorem w_r3 {i j : Int} (h : (rgOk i && rgOk j) = true) : r3P (.int i) (.int j) (.int (-1)) = some ((rangeD i j).map PV.int) := by
  simp only [r3P, h, if_true, rangeD, rangeC, List.map_map]
  congr 1
  apply List.map_congr_left
  intro a _
  show PV.int (i + (a : Int) * (-1)) = PV.int (i - (a : Int))
  congr 1
  omega
def enI (k : Nat) : List α → List (Int × α)
  | [] => []
  | x :: xs => ((k : Int), x) :: enI (k + 1) xs
def eT2 (e : α → PV) (e' : β → PV) (p : α × β) : PV := .tup [e p.1, e' p.2]
instance {e : α → PV} {e' : β → PV} : Fz (eT2 e e') := ⟨fun _ => rfl, fun _ => rfl⟩
theorem enI_map {e : α → PV} : ∀ (l : List α) (k : Nat), enumFrom k (l.map e) = (enI k l).map (eT2 PV.int e)
  | [], _ => rfl
  | a :: l, k => by
    show PV.tup _ :: enumFrom (k + 1) (l.map e) = _
    rw [enI_map l (k + 1)]
    rfl
theorem w_enL {o : Bool} {e e' : α → PV} [FzTo e e'] {l : List α} : enP (eL o e l) = some ((enI 0 l).map (eT2 PV.int e')) := by
  show some (enumFrom 0 (frzs _)) = _
  rw [frzs_to, enI_map]
theorem w_enV {e : α → PV} {l : List α} : enP (eV e l) = some ((enI 0 l).map (eT2 PV.int e)) := by
  show some (enumFrom 0 _) = _
  rw [enI_map]
theorem tp_one {i : Nat} {e : α → PV} [h : Fz e] {x : α} : Tg.put (e x) env (.one i p) = some (env.set i (some (e x))) := by
  simp only [Tg.put, h.own, Bool.false_eq_true, if_false]
theorem tp_tup {is : List (Nat × Pos)} {n : Nat} {xs : List PV} (h : setTup is xs env = some e1) : Tg.put (.tup xs) env (.tup is n p) = some e1 := h
/-! #### comprehensions -/
def lcM (G : Prg) (F : Fns) (e : E) (tg : Tg) (t : Ts) (own : List Nat) (xs : List PV) (env : DEnv) : R PV :=
  (lcRun own (fun x env => tg.put x env) (fun env => t.evAll G F env) (fun env => e.ev G F env) xs [] (wipeE env own)).bind fun ys env' => .ok (.lst true ys) (restE env own env')
theorem x_lc {e : E} {tg : Tg} {it : DN.It} {t : Ts} {sc : Scope} {own : List (Str × Nat)} (h : Sim C ((it.ev G F env).toS fun xs en => (lcM G F e tg t (own.map (·.2)) xs en).toS k) m) : Sim C (((E.lc e tg it t sc own p).ev G F env).toS k) m := by
  have z : (E.lc e tg it t sc own p).ev G F env = (it.ev G F env).bind fun xs en => lcM G F e tg t (own.map (·.2)) xs en := by rw [E.ev]; rfl
  rw [z]
  simpa only [toS_bind] using h
abbrev CxL (e' : β → PV) (own : List Nat) (env : DEnv) : Cx Unit Empty β := ⟨fun _ e => wipeE e own = env, fun _ _ => False, fun y v e => v = e' y ∧ wipeE e own = env, fun _ _ => False⟩
theorem lcF_exc {f : α → M (Flow Unit Empty β)} {c : Nat} (h : ∀ x c, f x ≠ .exc c) : ∀ l : List α, lcF f l ≠ .exc c
  | [] => fun z => nomatch z
  | x :: l => fun z => by
    unfold lcF at z
    cases hf : f x with
    | bad => rw [hf] at z; exact nomatch z
    | exc d => exact h x d hf
    | ok fl =>
      rw [hf] at z
      cases fl with
      | nx s => exact lcF_exc h l z
      | bk s => exact nomatch s
      | ct s => exact nomatch s
      | rt y =>
        have z : (lcF f l).bind (fun ys => M.ok (y :: ys)) = .exc c := z
        cases hl : lcF f l with
        | bad => rw [hl] at z; exact nomatch z
        | ok ys => rw [hl] at z; exact nomatch z
        | exc d => rw [hl] at z; cases z; exact lcF_exc h l hl
theorem z_lc {e : E} {tg : Tg} {t : Ts} {own : List Nat} {en : α → PV} {e' : β → PV} {l : List α} {f : α → M (Flow Unit Empty β)} {k' : List β → M (Flow σ τ ρ)} (hw : wipeE env own = e1)
    (hb : ∀ x, ∃ e2, tg.put (en x) e1 = some e2 ∧ Sim (CxL e' own e1) ((t.evAll G F e2).toS fun c e3 => if c then (e.ev G F e3).toS fun v e => .rt v e else .nx e3) (f x))
    (hk : ∀ ys, Sim C (k (eL true e' ys) (restE env own e1)) (k' ys)) : Sim C ((lcM G F e tg t own (l.map en) env).toS k) ((gd (sOk l.length)).bind fun _ => (lcF f l).bind k') := by
  refine g_gd fun hs => ?_
  have hs : l.length ≤ sizeLine := of_decide_eq_true hs
  cases hm : lcF f l with
  | bad => exact ⟨trivial⟩
  | exc c =>
    refine absurd hm (lcF_exc (fun x c hx => ?_) l)
    obtain ⟨e2, _, h⟩ := hb x
    rw [hx] at h
    obtain ⟨_, _, h⟩ := h
    exact h
  | ok ys =>
    have z := lcRun_sim (own := own) (tg := fun x env => tg.put x env) (tt := fun env => t.evAll G F env) (el := fun env => e.ev G F env) (e := en) (e' := e') (env := e1) (f := f) hb l [] ys (by simpa using hs) hm
    unfold lcM
    rw [hw]
    have z : lcRun own (fun x env => tg.put x env) (fun env => t.evAll G F env) (fun env => e.ev G F env) (l.map en) [] e1 = .ok (ys.map e') e1 := z
    rw [z]
    exact hk ys
end
end SH

set_option Elab.async false
set_option linter.all false
set_option maxRecDepth 100000
set_option maxHeartbeats 4000000
/-! SH, part 4: rules of tests and statements. -/
namespace SH
open PySem DN L2
variable {α β γ σ τ ρ σ' τ' ρ' δ ε : Type}
section
variable {C : Cx σ τ ρ} {G : Prg} {F : Fns} {fu : Nat} {env e1 e2 e3 : DEnv} {r : RS} {m m1 m2 : M (Flow σ τ ρ)} {ss : Ss} {p p1 p2 p3 p4 p5 p6 p7 pt pn pa pc pi : Pos} {k : PV → DEnv → RS} {kb : Bool → DEnv → RS}
/-! ### tests with calls in them -/
theorem x_tv {b : B} (h : Sim C ((b.ev G F env).toS fun x e => (R.of (truP x) e).toS kb) m) : Sim C (((Tt.v b).ev G F env).toS kb) m := by
  simpa only [Tt.ev, toS_bind] using h
theorem x_tcmp {o : CmpOp} {a b : B} (h : Sim C ((a.ev G F env).toS fun x e => (b.ev G F e).toS fun y e => (R.of (cmpP o x y) e).toS kb) m) : Sim C (((Tt.cmp o a b p).ev G F env).toS kb) m := by
  simpa only [Tt.ev, toS_bind] using h
theorem x_tnot {t : Tt} (h : Sim C ((t.ev G F env).toS fun c e => kb (!c) e) m) : Sim C (((Tt.not t p).ev G F env).toS kb) m := by
  simpa only [Tt.ev, toS_bind, toS_ok] using h
theorem x_tand {ts : Ts} (h : Sim C ((ts.evAll G F env).toS kb) m) : Sim C (((Tt.and ts p).ev G F env).toS kb) m := by
  simpa only [Tt.ev] using h
theorem x_tor {ts : Ts} (h : Sim C ((ts.evAny G F env).toS kb) m) : Sim C (((Tt.or ts p).ev G F env).toS kb) m := by
  simpa only [Tt.ev] using h
theorem xta_nil (h : Sim C (kb true env) m) : Sim C ((Ts.nil.evAll G F env).toS kb) m := by simpa only [Ts.evAll, toS_ok] using h
theorem xto_nil (h : Sim C (kb false env) m) : Sim C ((Ts.nil.evAny G F env).toS kb) m := by simpa only [Ts.evAny, toS_ok] using h
theorem xta_cons {t : Tt} {ts : Ts} (h : Sim C ((t.ev G F env).toS fun c e => (if c then ts.evAll G F e else .ok false e).toS kb) m) : Sim C (((Ts.cons t ts).evAll G F env).toS kb) m := by
  simpa only [Ts.evAll, toS_bind] using h
theorem xto_cons {t : Tt} {ts : Ts} (h : Sim C ((t.ev G F env).toS fun c e => (if c then .ok true e else ts.evAny G F e).toS kb) m) : Sim C (((Ts.cons t ts).evAny G F env).toS kb) m := by
  simpa only [Ts.evAny, toS_bind] using h
theorem z_ifb {a b : R Bool} {c : Bool} (h1 : Sim C (a.toS kb) m1) (h2 : Sim C (b.toS kb) m2) : Sim C ((if c then a else b).toS kb) (if c then m1 else m2) := by
  cases c with
  | true => exact h1
  | false => exact h2
theorem z_ifbT {a b : R Bool} (h : Sim C (a.toS kb) m) : Sim C ((if true then a else b).toS kb) m := h
theorem z_ifbF {a b : R Bool} (h : Sim C (b.toS kb) m) : Sim C ((if false then a else b).toS kb) m := h
theorem z_ifs {a b : RS} {c : Bool} (h1 : Sim C a m1) (h2 : Sim C b m2) : Sim C (if c then a else b) (if c then m1 else m2) := by
  cases c with
  | true => exact h1
  | false => exact h2
/-! ### statements -/
theorem seq_toS {γ : Type} (q : R γ) (f : γ → DEnv → RS) (g : DEnv → RS) : (q.toS f).seq g = q.toS fun x e => (f x e).seq g := by cases q <;> rfl
theorem seq_nx (e : DEnv) (g : DEnv → RS) : (RS.nx e).seq g = g e := rfl
theorem seq_rt (v : PV) (e : DEnv) (g : DEnv → RS) : (RS.rt v e).seq g = .rt v e := rfl
theorem seq_bad (g : DEnv → RS) : RS.bad.seq g = .bad := rfl
theorem c_set {i : Nat} {frz : Bool} {e : E} (h : Sim C ((e.ev G F env).toS fun x e' => ss.ev G F fu (e'.set i (some (fzv frz x)))) m) : Sim C ((Ss.cons (.set i frz e pt p) ss).ev G F fu env) m := by
  simpa only [Ss.ev, S.ev, seq_toS, seq_nx, fzv_eq] using h
theorem z_fz {i : Nat} {frz : Bool} {v v' : PV} (hf : fzv frz v = v') (h : Sim C (ss.ev G F fu (env.set i (some v'))) m) : Sim C (ss.ev G F fu (env.set i (some (fzv frz v)))) m := by
  rw [hf]; exact h
def setTM (is : List (Nat × Pos)) (x : PV) (env : DEnv) : Option DEnv := match x with
  | .tup xs => setTup is xs env
  | _ => none
def onO (o : Option DEnv) (g : DEnv → RS) : RS := match o with
  | some e => g e
  | none => .bad
theorem z_on {o : Option DEnv} {g : DEnv → RS} (h : o = some e1) (h2 : Sim C (g e1) m) : Sim C (onO o g) m := by
  rw [h]; exact h2
theorem c_setT {is : List (Nat × Pos)} {n : Nat} {e : E} (h : Sim C ((e.ev G F env).toS fun x e' => onO (setTM is x e') fun e2 => ss.ev G F fu e2) m) : Sim C ((Ss.cons (.setT is n e pt p) ss).ev G F fu env) m := by
  have z : (Ss.cons (.setT is n e pt p) ss).ev G F fu env = (e.ev G F env).toS fun x e' => onO (setTM is x e') fun e2 => ss.ev G F fu e2 := by
    simp only [Ss.ev, S.ev, seq_toS]
    congr 1; funext x e'
    cases x <;> try rfl
    simp only [setTM]
    split <;> rename_i h <;> rw [h] <;> rfl
  rw [z]; exact h
def setI (l : List α) (n : Int) (y : α) : Option (List α) := (ixN l.length n).map fun j => l.set j y
/-- an item of the owned list in slot i is stored -/
def setIM (i : Nat) (n : Option PV) (x : PV) (env : DEnv) : Option DEnv := match env[i]?, n with
  | some (some (.lst true xs)), some (.int n) => match ixN xs.length n with
    | some j => some (env.set i (some (.lst true (xs.set j x))))
    | none => none
  | _, _ => none
theorem c_setIx {i : Nat} {kq : Qe} {e : E} (h : Sim C ((e.ev G F env).toS fun x e' => onO (setIM i (kq.ev G e') x e') fun e2 => ss.ev G F fu e2) m) : Sim C ((Ss.cons (.setIx (.var i p1) kq e pt p) ss).ev G F fu env) m := by
  have z : (Ss.cons (.setIx (.var i p1) kq e pt p) ss).ev G F fu env = (e.ev G F env).toS fun x e' => onO (setIM i (kq.ev G e') x e') fun e2 => ss.ev G F fu e2 := by
    simp only [Ss.ev, S.ev, seq_toS, P.loc]
    congr 1; funext x e'
    cases h1 : e'[i]? with
    | none => simp only [setIM, h1]; rfl
    | some o =>
      cases o with
      | none => simp only [setIM, h1]; rfl
      | some v =>
        cases h2 : kq.ev G e' with
        | none => cases v <;> simp only [setIM, h1] <;> (try rename_i b _ <;> cases b) <;> rfl
        | some q =>
          cases v <;> try (simp only [setIM, h1]; rfl)
          rename_i b xs
          cases b <;> try (simp only [setIM, h1]; rfl)
          cases q <;> try (simp only [setIM, h1]; rfl)
          rename_i n
          simp only [setIM, h1]
          cases ixN xs.length n with
          | none => rfl
          | some j => simp only [setLoc, h1, setAt]; rfl
  rw [z]; exact h
theorem j_setI {i : Nat} {en : α → PV} {l l' : List α} {n : Int} {y : α} {nq : Option PV} (h : env[i]? = some (some (eL true en l))) (hn : nq = some (.int n)) (h2 : setI l n y = some l') : setIM i nq (en y) env = some (env.set i (some (eL true en l'))) := by
  subst hn
  unfold setI at h2
  simp only [setIM, h, eL, List.length_map]
  cases hj : ixN l.length n with
  | none => rw [hj] at h2; exact nomatch h2
  | some j =>
    rw [hj] at h2
    cases h2
    simp only [List.map_set]
/-- an item of a list in the list in slot i -/
def setIM2 (i : Nat) (n1 n2 : Option PV) (x : PV) (env : DEnv) : Option DEnv := match env[i]?, n1, n2 with
  | some (some (.lst true xs)), some (.int n1), some (.int n2) => match ixN xs.length n1 with
    | some j => match xs[j]? with
      | some (.lst true ys) => match ixN ys.length n2 with
        | some j2 => some (env.set i (some (.lst true (xs.set j (.lst true (ys.set j2 x))))))
        | none => none
      | _ => none
    | none => none
  | _, _, _ => none
theorem c_aug {i : Nat} {o : Operator} {e : E} {a : Int} (h0 : env[i]? = some (some (.int a))) (h : Sim C ((e.ev G F env).toS fun y e' => (R.of (binP o (.int a) y) e').toS fun z e' => ss.ev G F fu (e'.set i (some z))) m) (hy : ∀ y e', e.ev G F env = .ok y e' → ∃ b, y = .int b) : Sim C ((Ss.cons (.aug i o e pt p) ss).ev G F fu env) m := by
  have z : (Ss.cons (.aug i o e pt p) ss).ev G F fu env = (e.ev G F env).toS fun y e' => (R.of (binP o (.int a) y) e').toS fun z e' => ss.ev G F fu (e'.set i (some z)) := by
    simp only [Ss.ev, S.ev, h0, seq_toS]
    cases hq : e.ev G F env with
    | bad => rfl
    | exc c e' => rfl
    | ok y e' =>
      obtain ⟨b, rfl⟩ := hy y e' hq
      simp only [toS_ok]
      cases binP o (.int a) (.int b) <;> rfl
  rw [z]; exact h
theorem c_augP {i : Nat} {o : Operator} {e : E} {a b : Int} {v : PV} (h0 : env[i]? = some (some (.int a))) (he : e.ev G F env = .ok (.int b) e1) (hz : binP o (.int a) (.int b) = some v) (h : Sim C (ss.ev G F fu (e1.set i (some v))) m) : Sim C ((Ss.cons (.aug i o e pt p) ss).ev G F fu env) m := by
  have z : (Ss.cons (.aug i o e pt p) ss).ev G F fu env = ss.ev G F fu (e1.set i (some v)) := by
    simp only [Ss.ev, S.ev, h0, he, R.toS, hz, seq_nx]
  rw [z]; exact h
/-- += of a number that a call gives -/
def augM (o : Operator) (a : Int) (y : PV) : Option PV := match y with
  | .int b => binP o (.int a) (.int b)
  | _ => none
theorem c_augC {i : Nat} {o : Operator} {e : E} {a : Int} (h0 : env[i]? = some (some (.int a))) (h : Sim C ((e.ev G F env).toS fun y e' => (R.of (augM o a y) e').toS fun z e' => ss.ev G F fu (e'.set i (some z))) m) : Sim C ((Ss.cons (.aug i o e pt p) ss).ev G F fu env) m := by
  have z : (Ss.cons (.aug i o e pt p) ss).ev G F fu env = (e.ev G F env).toS fun y e' => (R.of (augM o a y) e').toS fun z e' => ss.ev G F fu (e'.set i (some z)) := by
    simp only [Ss.ev, S.ev, h0, seq_toS]
    congr 1; funext y e'
    cases y <;> try rfl
    rename_i b
    simp only [augM]
    cases binP o (.int a) (.int b) <;> rfl
  rw [z]; exact h
def setFM (G : Prg) (i f : Nat) (x : PV) (env : DEnv) : Option DEnv := match env[i]? with
  | some (some (.ins true c xs)) => match fldIx G c f with
    | some j => match putFld xs j x with
      | some ys => some (env.set i (some (.ins true c ys)))
      | none => none
    | none => none
  | _ => none
theorem c_setF {i f : Nat} {e : E} (h : Sim C ((e.ev G F env).toS fun x e' => onO (setFM G i f x e') fun e2 => ss.ev G F fu e2) m) : Sim C ((Ss.cons (.setFld (.var i p1) f e pt p) ss).ev G F fu env) m := by
  have z : (Ss.cons (.setFld (.var i p1) f e pt p) ss).ev G F fu env = (e.ev G F env).toS fun x e' => onO (setFM G i f x e') fun e2 => ss.ev G F fu e2 := by
    simp only [Ss.ev, S.ev, seq_toS, P.loc]
    congr 1; funext x e'
    cases h1 : e'[i]? with
    | none => simp only [setFM, h1]; rfl
    | some o =>
      cases o with
      | none => simp only [setFM, h1]; rfl
      | some v =>
        cases v <;> try (simp only [setFM, h1]; rfl)
        rename_i b c xs
        cases b <;> try (simp only [setFM, h1]; rfl)
        simp only [setFM, h1]
        cases fldIx G c f with
        | none => rfl
        | some j =>
          dsimp only
          cases putFld xs j x with
          | none => rfl
          | some ys => simp only [setLoc, h1, setAt]; rfl
  rw [z]; exact h
theorem j_setF {i f c j : Nat} {x : PV} {xs ys : List PV} (h : env[i]? = some (some (.ins true c xs))) (hf : fldIx G c f = some j) (hp : putFld xs j x = some ys) : setFM G i f x env = some (env.set i (some (.ins true c ys))) := by
  simp only [setFM, h, hf, hp]
def appM (i : Nat) (x : PV) (env : DEnv) : Option DEnv := match env[i]? with
  | some (some (.lst true xs)) => if decide (xs.length < sizeLine) then some (env.set i (some (.lst true (xs ++ [x])))) else none
  | _ => none
theorem c_appV {i : Nat} {e : E} {xs : List PV} (h0 : env[i]? = some (some (.lst true xs))) (h : Sim C ((e.ev G F env).toS fun x e' => onO (appM i x e') fun e2 => ss.ev G F fu e2) m) : Sim C ((Ss.cons (.appV i e pi pa pc p) ss).ev G F fu env) m := by
  have z : (Ss.cons (.appV i e pi pa pc p) ss).ev G F fu env = (e.ev G F env).toS fun x e' => onO (appM i x e') fun e2 => ss.ev G F fu e2 := by
    simp only [Ss.ev, S.ev, h0, seq_toS]
    congr 1; funext x e'
    cases h1 : e'[i]? with
    | none => simp only [appM, h1]; rfl
    | some o =>
      cases o with
      | none => simp only [appM, h1]; rfl
      | some v =>
        cases v <;> try (simp only [appM, h1]; rfl)
        rename_i b xs
        cases b <;> try (simp only [appM, h1]; rfl)
        simp only [appM, h1]
        split <;> rfl
  rw [z]; exact h
theorem j_app {i : Nat} {en : α → PV} {l : List α} {y : α} (h : env[i]? = some (some (eL true en l))) (hs : decide (l.length < sizeLine) = true) : appM i (en y) env = some (env.set i (some (eL true en (l ++ [y])))) := by
  simp only [appM, h, eL, List.length_map, hs, if_true, List.map_append, List.map_cons, List.map_nil]
theorem c_appQ {i : Nat} {kq : Qe} {en : α → PV} {l : List α} {y : α} (h : env[i]? = some (some (eL true en l))) (hk : kq.ev G env = some (en y)) (hs : decide (l.length < sizeLine) = true) (h2 : Sim C (ss.ev G F fu (env.set i (some (eL true en (l ++ [y]))))) m) : Sim C ((Ss.cons (.appQ (.var i p1) kq pa pc p) ss).ev G F fu env) m := by
  have z : (Ss.cons (.appQ (.var i p1) kq pa pc p) ss).ev G F fu env = ss.ev G F fu (env.set i (some (eL true en (l ++ [y])))) := by
    simp only [Ss.ev, S.ev, P.loc, h, eL, hk, List.length_map, hs, if_true, seq_nx, setLoc, setAt, List.map_append, List.map_cons, List.map_nil]
  rw [z]; exact h2
theorem c_appT {i n : Nat} {k1 k2 : Qe} {x1 x2 : PV} {en : α → PV} {l : List α} {y : α} (h : env[i]? = some (some (eL true en l))) (hk : k1.ev G env = some x1) (hk2 : k2.ev G env = some x2) (hy : PV.tup [x1, x2] = en y) (hs : decide (l.length < sizeLine) = true) (h2 : Sim C (ss.ev G F fu (env.set i (some (eL true en (l ++ [y]))))) m) : Sim C ((Ss.cons (.appT (.var i p1) k1 k2 n pt pa pc p) ss).ev G F fu env) m := by
  have z : (Ss.cons (.appT (.var i p1) k1 k2 n pt pa pc p) ss).ev G F fu env = ss.ev G F fu (env.set i (some (eL true en (l ++ [y])))) := by
    simp only [Ss.ev, S.ev, P.loc, h, eL, hk, hk2, List.length_map, hs, if_true, seq_nx, setLoc, setAt, List.map_append, List.map_cons, List.map_nil, hy]
  rw [z]; exact h2
/-- an item goes onto the list at place n of the list in slot i -/
theorem c_appQ2 {i : Nat} {k1 kq : Qe} {en : α → PV} {L : List (List α)} {l : List α} {L' : List (List α)} {n : Int} {y : α} (h : env[i]? = some (some (eL true (eL true en) L))) (hk1 : k1.ev G env = some (.int n)) (hk : kq.ev G env = some (en y)) (hl : atI L n = some l) (hL : setI L n (l ++ [y]) = some L') (hs : decide (l.length < sizeLine) = true) (h2 : Sim C (ss.ev G F fu (env.set i (some (eL true (eL true en) L')))) m) : Sim C ((Ss.cons (.appQ (.ix (.var i p1) k1 p2) kq pa pc p) ss).ev G F fu env) m := by
  have z : (Ss.cons (.appQ (.ix (.var i p1) k1 p2) kq pa pc p) ss).ev G F fu env = ss.ev G F fu (env.set i (some (eL true (eL true en) L'))) := by
    unfold atI at hl
    unfold setI at hL
    have h' : env[i]? = some (some (.lst true (L.map (eL true en)))) := h
    cases hj : ixN L.length n with
    | none => rw [hj] at hL; exact nomatch hL
    | some j =>
      rw [hj] at hl hL
      have hl : L[j]? = some l := hl
      cases hL
      have g : (L.map (eL true en))[j]? = some (.lst true (l.map en)) := by rw [List.getElem?_map, hl]; rfl
      simp only [Ss.ev, S.ev, P.loc, h', hk1, List.length_map, hj, g, hk, hs, if_true, seq_nx, setLoc, List.nil_append, setAt, PV.kids, PV.withKid]
      simp only [eL, List.map_set, List.map_append, List.map_cons, List.map_nil]
  rw [z]; exact h2
/-- an item goes onto a list that stands in the list in slot i -/
theorem c_appTH {i j n : Nat} {kq k1 k2 : Qe} {nq : Int} {xs : List PV} {x1 x2 : PV} {en : α → PV} {l : List α} {y : α} (h : env[i]? = some (some (.lst true xs))) (hk0 : kq.ev G env = some (.int nq)) (hj : ixN xs.length nq = some j) (hx : xs[j]? = some (eL true en l)) (hk : k1.ev G env = some x1) (hk2 : k2.ev G env = some x2) (hy : PV.tup [x1, x2] = en y) (hs : decide (l.length < sizeLine) = true) (h2 : Sim C (ss.ev G F fu (env.set i (some (.lst true (xs.set j (eL true en (l ++ [y]))))))) m) : Sim C ((Ss.cons (.appT (.ix (.var i p1) kq p2) k1 k2 n pt pa pc p) ss).ev G F fu env) m := by
  have z : (Ss.cons (.appT (.ix (.var i p1) kq p2) k1 k2 n pt pa pc p) ss).ev G F fu env = ss.ev G F fu (env.set i (some (.lst true (xs.set j (eL true en (l ++ [y])))))) := by
    have hx' : xs[j]? = some (.lst true (l.map en)) := hx
    simp only [Ss.ev, S.ev, P.loc, h, hk0, hj, hx', hk, hk2, List.length_map, hs, if_true, seq_nx, setLoc, List.nil_append, setAt, PV.kids, PV.withKid]
    simp only [eL, List.map_append, List.map_cons, List.map_nil, hy]
  rw [z]; exact h2
theorem c_appQH {i j : Nat} {kq k1 : Qe} {nq : Int} {xs : List PV} {en : α → PV} {l : List α} {y : α} (h : env[i]? = some (some (.lst true xs))) (hk0 : kq.ev G env = some (.int nq)) (hj : ixN xs.length nq = some j) (hx : xs[j]? = some (eL true en l)) (hk : k1.ev G env = some (en y)) (hs : decide (l.length < sizeLine) = true) (h2 : Sim C (ss.ev G F fu (env.set i (some (.lst true (xs.set j (eL true en (l ++ [y]))))))) m) : Sim C ((Ss.cons (.appQ (.ix (.var i p1) kq p2) k1 pa pc p) ss).ev G F fu env) m := by
  have z : (Ss.cons (.appQ (.ix (.var i p1) kq p2) k1 pa pc p) ss).ev G F fu env = ss.ev G F fu (env.set i (some (.lst true (xs.set j (eL true en (l ++ [y])))))) := by
    have hx' : xs[j]? = some (.lst true (l.map en)) := hx
    simp only [Ss.ev, S.ev, P.loc, h, hk0, hj, hx', hk, List.length_map, hs, if_true, seq_nx, setLoc, List.nil_append, setAt, PV.kids, PV.withKid]
    simp only [eL, List.map_append, List.map_cons, List.map_nil]
  rw [z]; exact h2
theorem c_rev {i : Nat} {en : α → PV} [Fz en] {l : List α} (h : env[i]? = some (some (eL true en l))) (h2 : Sim C (ss.ev G F fu (env.set i (some (eL true en l.reverse)))) m) : Sim C ((Ss.cons (.rev (.var i p1) pa pc p) ss).ev G F fu env) m := by
  have z : (Ss.cons (.rev (.var i p1) pa pc p) ss).ev G F fu env = ss.ev G F fu (env.set i (some (eL true en l.reverse))) := by
    simp only [Ss.ev, S.ev, P.loc, h, eL, flat_fz, if_true, seq_nx, setLoc, setAt, List.map_reverse]
  rw [z]; exact h2
theorem c_expr {e : E} (h : Sim C ((e.ev G F env).toS fun _ e' => ss.ev G F fu e') m) : Sim C ((Ss.cons (.expr e p) ss).ev G F fu env) m := by
  simpa only [Ss.ev, S.ev, seq_toS, seq_nx] using h
def Ss.app : Ss → Ss → Ss
  | .nil, ss => ss
  | .cons s r, ss => .cons s (Ss.app r ss)
theorem ev_app : ∀ (a b : Ss) (env : DEnv), (Ss.app a b).ev G F fu env = (a.ev G F fu env).seq fun e => b.ev G F fu e
  | .nil, b, env => by simp only [Ss.app, Ss.ev, seq_nx]
  | .cons s r, b, env => by
    simp only [Ss.app, Ss.ev]
    cases s.ev G F fu env <;> try rfl
    simp only [seq_nx]
    exact ev_app r b _
theorem c_ite {t : Tt} {a b : Ss} (h : Sim C ((t.ev G F env).toS fun c e => if c then (Ss.app a ss).ev G F fu e else (Ss.app b ss).ev G F fu e) m) : Sim C ((Ss.cons (.ite t a b p) ss).ev G F fu env) m := by
  have z : (Ss.cons (.ite t a b p) ss).ev G F fu env = (t.ev G F env).toS fun c e => if c then (Ss.app a ss).ev G F fu e else (Ss.app b ss).ev G F fu e := by
    simp only [Ss.ev, S.ev, seq_toS]
    congr 1; funext c e
    cases c <;> simp only [ev_app, if_true, Bool.false_eq_true, if_false]
  rw [z]; exact h
/-- both ways go on behind it -/
theorem c_iteJ {t : Tt} {a b : Ss} {N : σ' → DEnv → Prop} {mj : M (Flow σ' τ ρ)} {k' : σ' → M (Flow σ τ ρ)} (h : Sim ⟨N, C.L, C.Q, C.X⟩ ((t.ev G F env).toS fun c e => if c then a.ev G F fu e else b.ev G F fu e) mj) (hk : ∀ s e, N s e → Sim C (ss.ev G F fu e) (k' s)) : Sim C ((Ss.cons (.ite t a b p) ss).ev G F fu env) (mj.andThen k') := by
  have z : (Ss.cons (.ite t a b p) ss).ev G F fu env = ((t.ev G F env).toS fun c e => if c then a.ev G F fu e else b.ev G F fu e).seq fun e => ss.ev G F fu e := by
    simp only [Ss.ev, S.ev]
  rw [z]; exact seq_sim h hk
theorem c_iteE {t : Tt} {a b : Ss} {E : σ' → δ → DEnv} {mj : M (Flow σ' τ ρ)} {k' : σ' → M (Flow σ τ ρ)} (h : Sim ⟨fun s e => ∃ d, e = E s d, C.L, C.Q, C.X⟩ ((t.ev G F env).toS fun c e => if c then a.ev G F fu e else b.ev G F fu e) mj) (hk : ∀ s d, Sim C (ss.ev G F fu (E s d)) (k' s)) : Sim C ((Ss.cons (.ite t a b p) ss).ev G F fu env) (mj.andThen k') :=
  c_iteJ h fun s e ⟨d, z⟩ => by rw [z]; exact hk s d
theorem z_ifT {a b : RS} (h : Sim C a m) : Sim C (if true then a else b) m := h
theorem z_ifF {a b : RS} (h : Sim C b m) : Sim C (if false then a else b) m := h
theorem c_for {tg : Tg} {it : DN.It} {b : Ss} (h : Sim C ((it.ev G F env).toS fun xs e => (forRun (fun x env => tg.put x env) (fun env => b.ev G F fu env) xs e).seq fun e => ss.ev G F fu e) m) : Sim C ((Ss.cons (.forS tg it b p) ss).ev G F fu env) m := by
  simpa only [Ss.ev, S.ev, seq_toS] using h
abbrev CxF (C : Cx σ τ ρ) (E : σ' → δ → DEnv) : Cx σ' σ' ρ := ⟨fun s e => ∃ d, e = E s d, fun s e => ∃ d, e = E s d, C.Q, C.X⟩
theorem z_for {tg : Tg} {b : Ss} {en : α → PV} {l : List α} {E : σ' → δ → DEnv} {f : α → σ' → M (Flow σ' σ' ρ)} {k' : σ' → M (Flow σ τ ρ)} {s0 : σ'} (d0 : δ) (he : env = E s0 d0)
    (hb : ∀ x s d, ∃ e1, tg.put (en x) (E s d) = some e1 ∧ Sim (CxF C E) (b.ev G F fu e1) (f x s))
    (hk : ∀ s d, Sim C (ss.ev G F fu (E s d)) (k' s)) : Sim C ((forRun (fun x env => tg.put x env) (fun env => b.ev G F fu env) (l.map en) env).seq fun e => ss.ev G F fu e) ((forF f l s0).andThen k') := by
  subst he
  refine seq_sim (N := fun s e => ∃ d, e = E s d) (forRun_sim (tg := fun x env => tg.put x env) (body := fun env => b.ev G F fu env) (L := C.L) hb l s0 d0) fun s e h => ?_
  obtain ⟨d, rfl⟩ := h
  exact hk s d
theorem z_for0 {tg : Tg} {b : Ss} {g : DEnv → RS} (h : Sim C (g env) m) : Sim C ((forRun (fun x env => tg.put x env) (fun env => b.ev G F fu env) [] env).seq g) m := h
theorem z_for1 {tg : Tg} {b : Ss} {x : PV} {xs : List PV} {g : DEnv → RS} {E : σ' → δ → DEnv} {mj : M (Flow σ' τ ρ)} {k' : σ' → M (Flow σ τ ρ)} (ht : tg.put x env = some e1) (h : Sim ⟨fun s e => ∃ d, e = E s d, fun _ _ => False, C.Q, C.X⟩ (b.ev G F fu e1) mj)
    (hk : ∀ s d, Sim C ((forRun (fun x env => tg.put x env) (fun env => b.ev G F fu env) xs (E s d)).seq g) (k' s)) : Sim C ((forRun (fun x env => tg.put x env) (fun env => b.ev G F fu env) (x :: xs) env).seq g) (mj.andThen k') := by
  unfold forRun
  rw [ht]
  dsimp only
  cases mj with
  | bad => exact ⟨trivial⟩
  | exc c => obtain ⟨e, h1, h2⟩ := h; rw [h1]; exact ⟨_, rfl, h2⟩
  | ok fl =>
    cases fl with
    | nx s => obtain ⟨e, h1, d, h2⟩ := h; rw [h1, h2]; exact hk s d
    | bk s => obtain ⟨e, h1, h2⟩ := h; exact h2.elim
    | ct s => obtain ⟨e, h1, h2⟩ := h; exact h2.elim
    | rt v => obtain ⟨w, e, h1, h2⟩ := h; rw [h1]; exact ⟨_, _, rfl, h2⟩
theorem c_while {t : Tt} {b : Ss} {E : σ' → δ → DEnv} {tm : σ' → M (Flow Bool Empty Bool)} {f : σ' → M (Flow σ' σ' ρ)} {k' : σ' → M (Flow σ τ ρ)} {s0 : σ'} (d0 : δ) (he : env = E s0 d0)
    (ht : ∀ s d, Sim (CxB (E s d) C.X) ((t.ev G F (E s d)).toS fun c e => .rt (.bl c) e) (tm s))
    (hb : ∀ s d, Sim (CxF C E) (b.ev G F fu (E s d)) (f s))
    (hk : ∀ s d, Sim C (ss.ev G F fu (E s d)) (k' s)) : Sim C ((Ss.cons (.whileS t b p) ss).ev G F fu env) ((whileF (fun s => toM (tm s)) f fu s0).andThen k') := by
  subst he
  have z : (Ss.cons (.whileS t b p) ss).ev G F fu (E s0 d0) = (whileRun (fun env => t.ev G F env) (fun env => b.ev G F fu env) fu (E s0 d0)).seq fun e => ss.ev G F fu e := by
    simp only [Ss.ev, S.ev]
  rw [z]
  refine seq_sim (N := fun s e => ∃ d, e = E s d) (whileRun_sim (tt := fun env => t.ev G F env) (body := fun env => b.ev G F fu env) (L := C.L) ht hb fu s0 d0) fun s e h => ?_
  obtain ⟨d, rfl⟩ := h
  exact hk s d
theorem c_ret {e : E} (h : Sim C ((e.ev G F env).toS fun x e' => .rt x e') m) : Sim C ((Ss.cons (.ret e p) ss).ev G F fu env) m := by
  simpa only [Ss.ev, S.ev, seq_toS, seq_rt] using h
theorem c_retN {v : ρ} (h : C.Q v .non env) : Sim C ((Ss.cons (.retN p) ss).ev G F fu env) (.ok (.rt v)) := by
  refine ⟨_, _, ?_, h⟩
  simp only [Ss.ev, S.ev, seq_rt]
theorem c_raise {c j : Nat} {mg : Str} (h : C.X c env) : Sim C ((Ss.cons (.raise c mg j p1 p2 p3 p) ss).ev G F fu env) (.exc c) := by
  refine ⟨_, ?_, h⟩
  simp only [Ss.ev, S.ev, RS.seq]
theorem c_brk {s : τ} (h : C.L s env) : Sim C ((Ss.cons (.brk p) ss).ev G F fu env) (.ok (.bk s)) := by
  refine ⟨_, ?_, h⟩
  simp only [Ss.ev, S.ev, RS.seq]
theorem c_cont {s : τ} (h : C.L s env) : Sim C ((Ss.cons (.cont p) ss).ev G F fu env) (.ok (.ct s)) := by
  refine ⟨_, ?_, h⟩
  simp only [Ss.ev, S.ev, RS.seq]
theorem c_pass (h : Sim C (ss.ev G F fu env) m) : Sim C ((Ss.cons (.pass p) ss).ev G F fu env) m := by
  simpa only [Ss.ev, S.ev, seq_nx] using h
theorem c_nil {s : σ} (h : C.N s env) : Sim C (Ss.nil.ev G F fu env) (.ok (.nx s)) := by
  refine ⟨_, ?_, h⟩
  simp only [Ss.ev]
/-- try: E the slots where the body goes on, EX those where it raises -/
theorem c_try {b : Ss} {c i : Nat} {su0 : Su} {su : List Su} {np ph : Pos} {N : σ' → DEnv → Prop} {EX : δ → DEnv} {mb : M (Flow σ' τ ρ)} {hd : Nat → M (Flow σ' τ ρ)} {k' : σ' → M (Flow σ τ ρ)}
    (hb : Sim ⟨N, C.L, C.Q, fun _ e => ∃ d, e = EX d⟩ (b.ev G F fu env) mb)
    (hi : ∀ d, i < (EX d).length)
    (hh : ∀ x d, Sim ⟨N, C.L, C.Q, C.X⟩ (match Su.evs G x (su0 :: su) ((EX d).set i none) with
      | .nx e2 => .nx (e2.set i none)
      | _ => .bad) (hd x))
    (hx : ∀ x d, C.X x (EX d))
    (hk : ∀ s e, N s e → Sim C (ss.ev G F fu e) (k' s)) : Sim C ((Ss.cons (.tryA b c i su0 su np ph p) ss).ev G F fu env) ((tryM G c mb hd).andThen k') := by
  have z : (Ss.cons (.tryA b c i su0 su np ph p) ss).ev G F fu env = ((S.tryA b c i su0 su np ph p).ev G F fu env).seq fun e => ss.ev G F fu e := by
    simp only [Ss.ev]
  rw [z]
  refine seq_sim (N := N) ?_ hk
  have z2 : (S.tryA b c i su0 su np ph p).ev G F fu env = match b.ev G F fu env with
    | .exc d env1 => match subOf G d c with
      | some true => if decide (i < env1.length) then match Su.evs G d (su0 :: su) (env1.set i none) with
          | .nx env2 => .nx (env2.set i none)
          | _ => .bad
        else .bad
      | some false => .exc d env1
      | none => .bad
    | r => r := by first | (rw [S.ev]; done) | (rw [S.ev]; cases Ss.ev G F fu b env <;> rfl)
  rw [z2]
  unfold tryM
  cases mb with
  | bad => exact ⟨trivial⟩
  | exc x =>
    obtain ⟨e, h1, d, h2⟩ := hb
    rw [h1]
    dsimp only
    cases hs : subOf G x c with
    | none => exact ⟨trivial⟩
    | some b =>
      cases b with
      | false => exact ⟨_, rfl, by rw [h2]; exact hx x d⟩
      | true =>
        dsimp only
        subst h2
        rw [if_pos (decide_eq_true (hi d))]
        exact hh x d
  | ok fl =>
    cases fl with
    | nx s => obtain ⟨e, h1, h2⟩ := hb; rw [h1]; exact ⟨_, rfl, h2⟩
    | bk s => obtain ⟨e, h1, h2⟩ := hb; rw [h1]; exact ⟨_, rfl, h2⟩
    | ct s => obtain ⟨e, h1, h2⟩ := hb; rw [h1]; exact ⟨_, rfl, h2⟩
    | rt v => obtain ⟨w, e, h1, h2⟩ := hb; rw [h1]; exact ⟨_, _, rfl, h2⟩
theorem c_tryE {b : Ss} {c i : Nat} {su0 : Su} {su : List Su} {np ph : Pos} {E : σ' → ε → DEnv} {EX : δ → DEnv} {mb : M (Flow σ' τ ρ)} {hd : Nat → M (Flow σ' τ ρ)} {k' : σ' → M (Flow σ τ ρ)}
    (hb : Sim ⟨fun s e => ∃ d, e = E s d, C.L, C.Q, fun _ e => ∃ d, e = EX d⟩ (b.ev G F fu env) mb)
    (hi : ∀ d, i < (EX d).length)
    (hh : ∀ x d, Sim ⟨fun s e => ∃ d, e = E s d, C.L, C.Q, C.X⟩ (match Su.evs G x (su0 :: su) ((EX d).set i none) with
      | .nx e2 => .nx (e2.set i none)
      | _ => .bad) (hd x))
    (hx : ∀ x d, C.X x (EX d))
    (hk : ∀ s d, Sim C (ss.ev G F fu (E s d)) (k' s)) : Sim C ((Ss.cons (.tryA b c i su0 su np ph p) ss).ev G F fu env) ((tryM G c mb hd).andThen k') :=
  c_try hb hi hh hx fun s e ⟨d, z⟩ => by rw [z]; exact hk s d
theorem z_su {x i : Nat} {su0 : Su} {su : List Su} (h : Su.evs G x (su0 :: su) env = .nx e1) (h2 : Sim C (.nx (e1.set i none)) m) : Sim C (match Su.evs G x (su0 :: su) env with
      | .nx e2 => .nx (e2.set i none)
      | _ => .bad) m := by
  rw [h]; exact h2
theorem su_nil {x : Nat} : Su.evs G x [] env = .nx env := rfl
theorem su_cons {x : Nat} {s : Su} {su : List Su} {r : RS} (h : s.ev G x env = .nx e1) (h2 : Su.evs G x su e1 = r) : Su.evs G x (s :: su) env = r := by
  simp only [Su.evs, h, seq_nx, h2]
theorem su_lst {x j : Nat} {xs : List Sa} {vs : List PV} (h : Sa.evs G x xs = some vs) : (Su.lst j xs p1 p2 p3).ev G x env = .nx (env.set j (some (.lst true vs))) := by
  simp only [Su.ev, h]
theorem su_one {x j : Nat} {a : Sa} {v : PV} (h : a.ev G x = some v) : (Su.one j a p1 p2).ev G x env = .nx (env.set j (some v)) := by
  simp only [Su.ev, h]
theorem sa_nil {x : Nat} : Sa.evs G x [] = some [] := rfl
theorem sa_cons {x : Nat} {a : Sa} {as : List Sa} {v : PV} {vs : List PV} (h : a.ev G x = some v) (h2 : Sa.evs G x as = some vs) : Sa.evs G x (a :: as) = some (v :: vs) := by
  simp only [Sa.evs, h, h2]
theorem sa_is {x c : Nat} {b : Bool} (h : subOf G x c = some b) : (Sa.isE c p1 p2 p3 p4).ev G x = some (.bl b) := by
  simp only [Sa.ev, h, Option.map]
end
def rst (o : Option PV) : Option PV := match (some o : Option (Option PV)) with
  | some (some x) => if x.own then none else some x
  | _ => none
def M.nox : M α → M α
  | .exc _ => .bad
  | m => m
@[simp] theorem nox_ok (a : α) : (M.ok a).nox = .ok a := Eq.trans rfl rfl
@[simp] theorem nox_bad : (M.bad : M α).nox = .bad := Eq.trans rfl rfl
section
variable {C : Cx σ τ ρ} {G : Prg} {F : Fns} {fu : Nat} {env e1 e2 e3 : DEnv} {m m1 m2 : M (Flow σ τ ρ)} {p pn pa : Pos} {k : PV → DEnv → RS}
theorem z_callN {E3 : α → DEnv} {f : Nat} {as : As} {xs : List (Option PV)} {ys ys' : List PV} {v : α → PV} {ps : α → DEnv} {PX : ε → DEnv} {m0 : M α} {k' : α → M (Flow σ τ ρ)} (hT : takeOut as xs env = some (ys, e2)) (hy : ys = ys') (hc : CF v ps PX (F f ys') m0)
    (hq : ∀ a, putBack as (ps a) e2 = E3 a) (hk : ∀ a, Sim C (k (v a) (E3 a)) (k' a)) : Sim C ((callM F f as xs env).toS k) (m0.nox.bind k') := by
  cases m0 with
  | bad => exact ⟨trivial⟩
  | exc c => exact ⟨trivial⟩
  | ok a =>
    subst hy
    unfold callM
    rw [hT]
    have h : F f ys = .ok (v a) (ps a) := hc.o
    show Sim C ((callR as e2 (F f ys)).toS k) (k' a)
    rw [h]
    have z := hk a
    rw [← hq a] at z
    exact z
theorem z_methN {E3 : α → DEnv} {f : Nat} {x : PV} {as : As} {xs : List (Option PV)} {ys ys' : List PV} {v : α → PV} {ps : α → DEnv} {PX : ε → DEnv} {m0 : M α} {k' : α → M (Flow σ τ ρ)} {w : α → Option PV} {ps' : α → DEnv}
    (hT : takeOut as xs env = some (ys, e2)) (hy : ys = ys') (hc : CF v ps PX (F f (x :: ys')) m0) (hp : ∀ a, ps a = w a :: ps' a)
    (hq : ∀ a, putBack as (ps' a) e2 = E3 a) (hk : ∀ a, Sim C (k (v a) (E3 a)) (k' a)) : Sim C ((methM F f x as xs env).toS k) (m0.nox.bind k') := by
  cases m0 with
  | bad => exact ⟨trivial⟩
  | exc c => exact ⟨trivial⟩
  | ok a =>
    subst hy
    unfold methM
    rw [hT]
    dsimp only
    have h : F f (x :: ys) = .ok (v a) (ps a) := hc.o
    show Sim C (R.toS (match F f (x :: ys) with | .ok v (_ :: ps) => .ok v (putBack as ps e2) | .exc d (_ :: ps) => .exc d (putBack as ps e2) | _ => .bad) k) (k' a)
    rw [h, hp]
    have z := hk a
    rw [← hq a] at z
    exact z
/-- a property never raises here -/
theorem z_prop {c f : Nat} {x : PV} {v : α → PV} {ps : α → DEnv} {PX : ε → DEnv} {m0 : M α} {k' : α → M (Flow σ τ ρ)} (hi : x.isOf c = true) (hc : CF v ps PX (F f [x]) m0)
    (hk : ∀ a, Sim C (k (v a) env) (k' a)) : Sim C ((propM F c f x env).toS k) (m0.nox.bind k') := by
  cases m0 with
  | bad => exact ⟨trivial⟩
  | exc c => exact ⟨trivial⟩
  | ok a =>
    unfold propM
    rw [if_pos hi]
    have h : F f [x] = .ok (v a) (ps a) := hc.o
    rw [h]
    exact hk a
theorem e_lstL {es : Es} (e : α → PV) (l : List α) (h : es.ev G F env = .ok (l.map e) e1) (hs : sOk l.length = true) : (E.lst es p).ev G F env = .ok (eL true e l) e1 := e_lst h (by rw [List.length_map]; exact hs)
theorem r_lstL (e : α → PV) (l : List α) (hs : sOk l.length = true) : lstR (l.map e) env = .ok (eL true e l) env := r_lst (by rw [List.length_map]; exact hs)
theorem fl0 : flatP [] = true := rfl
theorem flc {x : PV} {xs : List PV} (h : x.own = false) (h2 : flatP xs = true) : flatP (x :: xs) = true := by
  unfold flatP at *
  rw [List.all_cons, h, h2]
  rfl
end
def eT3 {A0 A1 A2 : Type} (e0 : A0 → PV) (e1 : A1 → PV) (e2 : A2 → PV) (p : A0 × A1 × A2) : PV := .tup [e0 p.1, e1 p.2.1, e2 p.2.2]
instance {A0 A1 A2 : Type} {e0 : A0 → PV} {e1 : A1 → PV} {e2 : A2 → PV} : Fz (eT3 e0 e1 e2) := ⟨fun _ => rfl, fun _ => rfl⟩
def eT4 {A0 A1 A2 A3 : Type} (e0 : A0 → PV) (e1 : A1 → PV) (e2 : A2 → PV) (e3 : A3 → PV) (p : A0 × A1 × A2 × A3) : PV := .tup [e0 p.1, e1 p.2.1, e2 p.2.2.1, e3 p.2.2.2]
instance {A0 A1 A2 A3 : Type} {e0 : A0 → PV} {e1 : A1 → PV} {e2 : A2 → PV} {e3 : A3 → PV} : Fz (eT4 e0 e1 e2 e3) := ⟨fun _ => rfl, fun _ => rfl⟩
def eT5 {A0 A1 A2 A3 A4 : Type} (e0 : A0 → PV) (e1 : A1 → PV) (e2 : A2 → PV) (e3 : A3 → PV) (e4 : A4 → PV) (p : A0 × A1 × A2 × A3 × A4) : PV := .tup [e0 p.1, e1 p.2.1, e2 p.2.2.1, e3 p.2.2.2.1, e4 p.2.2.2.2]
instance {A0 A1 A2 A3 A4 : Type} {e0 : A0 → PV} {e1 : A1 → PV} {e2 : A2 → PV} {e3 : A3 → PV} {e4 : A4 → PV} : Fz (eT5 e0 e1 e2 e3 e4) := ⟨fun _ => rfl, fun _ => rfl⟩
def eT6 {A0 A1 A2 A3 A4 A5 : Type} (e0 : A0 → PV) (e1 : A1 → PV) (e2 : A2 → PV) (e3 : A3 → PV) (e4 : A4 → PV) (e5 : A5 → PV) (p : A0 × A1 × A2 × A3 × A4 × A5) : PV := .tup [e0 p.1, e1 p.2.1, e2 p.2.2.1, e3 p.2.2.2.1, e4 p.2.2.2.2.1, e5 p.2.2.2.2.2]
instance {A0 A1 A2 A3 A4 A5 : Type} {e0 : A0 → PV} {e1 : A1 → PV} {e2 : A2 → PV} {e3 : A3 → PV} {e4 : A4 → PV} {e5 : A5 → PV} : Fz (eT6 e0 e1 e2 e3 e4 e5) := ⟨fun _ => rfl, fun _ => rfl⟩
def eT7 {A0 A1 A2 A3 A4 A5 A6 : Type} (e0 : A0 → PV) (e1 : A1 → PV) (e2 : A2 → PV) (e3 : A3 → PV) (e4 : A4 → PV) (e5 : A5 → PV) (e6 : A6 → PV) (p : A0 × A1 × A2 × A3 × A4 × A5 × A6) : PV := .tup [e0 p.1, e1 p.2.1, e2 p.2.2.1, e3 p.2.2.2.1, e4 p.2.2.2.2.1, e5 p.2.2.2.2.2.1, e6 p.2.2.2.2.2.2]
instance {A0 A1 A2 A3 A4 A5 A6 : Type} {e0 : A0 → PV} {e1 : A1 → PV} {e2 : A2 → PV} {e3 : A3 → PV} {e4 : A4 → PV} {e5 : A5 → PV} {e6 : A6 → PV} : Fz (eT7 e0 e1 e2 e3 e4 e5 e6) := ⟨fun _ => rfl, fun _ => rfl⟩
def eT8 {A0 A1 A2 A3 A4 A5 A6 A7 : Type} (e0 : A0 → PV) (e1 : A1 → PV) (e2 : A2 → PV) (e3 : A3 → PV) (e4 : A4 → PV) (e5 : A5 → PV) (e6 : A6 → PV) (e7 : A7 → PV) (p : A0 × A1 × A2 × A3 × A4 × A5 × A6 × A7) : PV := .tup [e0 p.1, e1 p.2.1, e2 p.2.2.1, e3 p.2.2.2.1, e4 p.2.2.2.2.1, e5 p.2.2.2.2.2.1, e6 p.2.2.2.2.2.2.1, e7 p.2.2.2.2.2.2.2]
instance {A0 A1 A2 A3 A4 A5 A6 A7 : Type} {e0 : A0 → PV} {e1 : A1 → PV} {e2 : A2 → PV} {e3 : A3 → PV} {e4 : A4 → PV} {e5 : A5 → PV} {e6 : A6 → PV} {e7 : A7 → PV} : Fz (eT8 e0 e1 e2 e3 e4 e5 e6 e7) := ⟨fun _ => rfl, fun _ => rfl⟩
def eH1 {A0 : Type} (o : Bool) (e0 : A0 → PV) (p : A0) : PV := .lst o [e0 p]
instance fzToH1 {A0 : Type} {o : Bool} {e0 f0 : A0 → PV} [h0 : FzTo e0 f0]  : FzTo (eH1 o e0) (eH1 false f0) := ⟨fun p => by simp only [eH1, PV.frz, frzs, h0.to]⟩
instance {A0 : Type} {e0 : A0 → PV} [h0 : Fz e0] : Fz (eH1 false e0) := ⟨fun p => by simp only [eH1, PV.frz, frzs, h0.frz], fun _ => rfl⟩
def eH2 {A0 A1 : Type} (o : Bool) (e0 : A0 → PV) (e1 : A1 → PV) (p : A0 × A1) : PV := .lst o [e0 p.1, e1 p.2]
instance fzToH2 {A0 A1 : Type} {o : Bool} {e0 f0 : A0 → PV} {e1 f1 : A1 → PV} [h0 : FzTo e0 f0] [h1 : FzTo e1 f1]  : FzTo (eH2 o e0 e1) (eH2 false f0 f1) := ⟨fun p => by simp only [eH2, PV.frz, frzs, h0.to, h1.to]⟩
instance {A0 A1 : Type} {e0 : A0 → PV} {e1 : A1 → PV} [h0 : Fz e0] [h1 : Fz e1] : Fz (eH2 false e0 e1) := ⟨fun p => by simp only [eH2, PV.frz, frzs, h0.frz, h1.frz], fun _ => rfl⟩
def eH3 {A0 A1 A2 : Type} (o : Bool) (e0 : A0 → PV) (e1 : A1 → PV) (e2 : A2 → PV) (p : A0 × A1 × A2) : PV := .lst o [e0 p.1, e1 p.2.1, e2 p.2.2]
instance fzToH3 {A0 A1 A2 : Type} {o : Bool} {e0 f0 : A0 → PV} {e1 f1 : A1 → PV} {e2 f2 : A2 → PV} [h0 : FzTo e0 f0] [h1 : FzTo e1 f1] [h2 : FzTo e2 f2]  : FzTo (eH3 o e0 e1 e2) (eH3 false f0 f1 f2) := ⟨fun p => by simp only [eH3, PV.frz, frzs, h0.to, h1.to, h2.to]⟩
instance {A0 A1 A2 : Type} {e0 : A0 → PV} {e1 : A1 → PV} {e2 : A2 → PV} [h0 : Fz e0] [h1 : Fz e1] [h2 : Fz e2] : Fz (eH3 false e0 e1 e2) := ⟨fun p => by simp only [eH3, PV.frz, frzs, h0.frz, h1.frz, h2.frz], fun _ => rfl⟩
def eH4 {A0 A1 A2 A3 : Type} (o : Bool) (e0 : A0 → PV) (e1 : A1 → PV) (e2 : A2 → PV) (e3 : A3 → PV) (p : A0 × A1 × A2 × A3) : PV := .lst o [e0 p.1, e1 p.2.1, e2 p.2.2.1, e3 p.2.2.2]
instance fzToH4 {A0 A1 A2 A3 : Type} {o : Bool} {e0 f0 : A0 → PV} {e1 f1 : A1 → PV} {e2 f2 : A2 → PV} {e3 f3 : A3 → PV} [h0 : FzTo e0 f0] [h1 : FzTo e1 f1] [h2 : FzTo e2 f2] [h3 : FzTo e3 f3]  : FzTo (eH4 o e0 e1 e2 e3) (eH4 false f0 f1 f2 f3) := ⟨fun p => by simp only [eH4, PV.frz, frzs, h0.to, h1.to, h2.to, h3.to]⟩
instance {A0 A1 A2 A3 : Type} {e0 : A0 → PV} {e1 : A1 → PV} {e2 : A2 → PV} {e3 : A3 → PV} [h0 : Fz e0] [h1 : Fz e1] [h2 : Fz e2] [h3 : Fz e3] : Fz (eH4 false e0 e1 e2 e3) := ⟨fun p => by simp only [eH4, PV.frz, frzs, h0.frz, h1.frz, h2.frz, h3.frz], fun _ => rfl⟩
def eH5 {A0 A1 A2 A3 A4 : Type} (o : Bool) (e0 : A0 → PV) (e1 : A1 → PV) (e2 : A2 → PV) (e3 : A3 → PV) (e4 : A4 → PV) (p : A0 × A1 × A2 × A3 × A4) : PV := .lst o [e0 p.1, e1 p.2.1, e2 p.2.2.1, e3 p.2.2.2.1, e4 p.2.2.2.2]
instance fzToH5 {A0 A1 A2 A3 A4 : Type} {o : Bool} {e0 f0 : A0 → PV} {e1 f1 : A1 → PV} {e2 f2 : A2 → PV} {e3 f3 : A3 → PV} {e4 f4 : A4 → PV} [h0 : FzTo e0 f0] [h1 : FzTo e1 f1] [h2 : FzTo e2 f2] [h3 : FzTo e3 f3] [h4 : FzTo e4 f4]  : FzTo (eH5 o e0 e1 e2 e3 e4) (eH5 false f0 f1 f2 f3 f4) := ⟨fun p => by simp only [eH5, PV.frz, frzs, h0.to, h1.to, h2.to, h3.to, h4.to]⟩
instance {A0 A1 A2 A3 A4 : Type} {e0 : A0 → PV} {e1 : A1 → PV} {e2 : A2 → PV} {e3 : A3 → PV} {e4 : A4 → PV} [h0 : Fz e0] [h1 : Fz e1] [h2 : Fz e2] [h3 : Fz e3] [h4 : Fz e4] : Fz (eH5 false e0 e1 e2 e3 e4) := ⟨fun p => by simp only [eH5, PV.frz, frzs, h0.frz, h1.frz, h2.frz, h3.frz, h4.frz], fun _ => rfl⟩
def eH6 {A0 A1 A2 A3 A4 A5 : Type} (o : Bool) (e0 : A0 → PV) (e1 : A1 → PV) (e2 : A2 → PV) (e3 : A3 → PV) (e4 : A4 → PV) (e5 : A5 → PV) (p : A0 × A1 × A2 × A3 × A4 × A5) : PV := .lst o [e0 p.1, e1 p.2.1, e2 p.2.2.1, e3 p.2.2.2.1, e4 p.2.2.2.2.1, e5 p.2.2.2.2.2]
instance fzToH6 {A0 A1 A2 A3 A4 A5 : Type} {o : Bool} {e0 f0 : A0 → PV} {e1 f1 : A1 → PV} {e2 f2 : A2 → PV} {e3 f3 : A3 → PV} {e4 f4 : A4 → PV} {e5 f5 : A5 → PV} [h0 : FzTo e0 f0] [h1 : FzTo e1 f1] [h2 : FzTo e2 f2] [h3 : FzTo e3 f3] [h4 : FzTo e4 f4] [h5 : FzTo e5 f5]  : FzTo (eH6 o e0 e1 e2 e3 e4 e5) (eH6 false f0 f1 f2 f3 f4 f5) := ⟨fun p => by simp only [eH6, PV.frz, frzs, h0.to, h1.to, h2.to, h3.to, h4.to, h5.to]⟩
instance {A0 A1 A2 A3 A4 A5 : Type} {e0 : A0 → PV} {e1 : A1 → PV} {e2 : A2 → PV} {e3 : A3 → PV} {e4 : A4 → PV} {e5 : A5 → PV} [h0 : Fz e0] [h1 : Fz e1] [h2 : Fz e2] [h3 : Fz e3] [h4 : Fz e4] [h5 : Fz e5] : Fz (eH6 false e0 e1 e2 e3 e4 e5) := ⟨fun p => by simp only [eH6, PV.frz, frzs, h0.frz, h1.frz, h2.frz, h3.frz, h4.frz, h5.frz], fun _ => rfl⟩
def eH7 {A0 A1 A2 A3 A4 A5 A6 : Type} (o : Bool) (e0 : A0 → PV) (e1 : A1 → PV) (e2 : A2 → PV) (e3 : A3 → PV) (e4 : A4 → PV) (e5 : A5 → PV) (e6 : A6 → PV) (p : A0 × A1 × A2 × A3 × A4 × A5 × A6) : PV := .lst o [e0 p.1, e1 p.2.1, e2 p.2.2.1, e3 p.2.2.2.1, e4 p.2.2.2.2.1, e5 p.2.2.2.2.2.1, e6 p.2.2.2.2.2.2]
instance fzToH7 {A0 A1 A2 A3 A4 A5 A6 : Type} {o : Bool} {e0 f0 : A0 → PV} {e1 f1 : A1 → PV} {e2 f2 : A2 → PV} {e3 f3 : A3 → PV} {e4 f4 : A4 → PV} {e5 f5 : A5 → PV} {e6 f6 : A6 → PV} [h0 : FzTo e0 f0] [h1 : FzTo e1 f1] [h2 : FzTo e2 f2] [h3 : FzTo e3 f3] [h4 : FzTo e4 f4] [h5 : FzTo e5 f5] [h6 : FzTo e6 f6]  : FzTo (eH7 o e0 e1 e2 e3 e4 e5 e6) (eH7 false f0 f1 f2 f3 f4 f5 f6) := ⟨fun p => by simp only [eH7, PV.frz, frzs, h0.to, h1.to, h2.to, h3.to, h4.to, h5.to, h6.to]⟩
instance {A0 A1 A2 A3 A4 A5 A6 : Type} {e0 : A0 → PV} {e1 : A1 → PV} {e2 : A2 → PV} {e3 : A3 → PV} {e4 : A4 → PV} {e5 : A5 → PV} {e6 : A6 → PV} [h0 : Fz e0] [h1 : Fz e1] [h2 : Fz e2] [h3 : Fz e3] [h4 : Fz e4] [h5 : Fz e5] [h6 : Fz e6] : Fz (eH7 false e0 e1 e2 e3 e4 e5 e6) := ⟨fun p => by simp only [eH7, PV.frz, frzs, h0.frz, h1.frz, h2.frz, h3.frz, h4.frz, h5.frz, h6.frz], fun _ => rfl⟩
def eH8 {A0 A1 A2 A3 A4 A5 A6 A7 : Type} (o : Bool) (e0 : A0 → PV) (e1 : A1 → PV) (e2 : A2 → PV) (e3 : A3 → PV) (e4 : A4 → PV) (e5 : A5 → PV) (e6 : A6 → PV) (e7 : A7 → PV) (p : A0 × A1 × A2 × A3 × A4 × A5 × A6 × A7) : PV := .lst o [e0 p.1, e1 p.2.1, e2 p.2.2.1, e3 p.2.2.2.1, e4 p.2.2.2.2.1, e5 p.2.2.2.2.2.1, e6 p.2.2.2.2.2.2.1, e7 p.2.2.2.2.2.2.2]
instance fzToH8 {A0 A1 A2 A3 A4 A5 A6 A7 : Type} {o : Bool} {e0 f0 : A0 → PV} {e1 f1 : A1 → PV} {e2 f2 : A2 → PV} {e3 f3 : A3 → PV} {e4 f4 : A4 → PV} {e5 f5 : A5 → PV} {e6 f6 : A6 → PV} {e7 f7 : A7 → PV} [h0 : FzTo e0 f0] [h1 : FzTo e1 f1] [h2 : FzTo e2 f2] [h3 : FzTo e3 f3] [h4 : FzTo e4 f4] [h5 : FzTo e5 f5] [h6 : FzTo e6 f6] [h7 : FzTo e7 f7]  : FzTo (eH8 o e0 e1 e2 e3 e4 e5 e6 e7) (eH8 false f0 f1 f2 f3 f4 f5 f6 f7) := ⟨fun p => by simp only [eH8, PV.frz, frzs, h0.to, h1.to, h2.to, h3.to, h4.to, h5.to, h6.to, h7.to]⟩
instance {A0 A1 A2 A3 A4 A5 A6 A7 : Type} {e0 : A0 → PV} {e1 : A1 → PV} {e2 : A2 → PV} {e3 : A3 → PV} {e4 : A4 → PV} {e5 : A5 → PV} {e6 : A6 → PV} {e7 : A7 → PV} [h0 : Fz e0] [h1 : Fz e1] [h2 : Fz e2] [h3 : Fz e3] [h4 : Fz e4] [h5 : Fz e5] [h6 : Fz e6] [h7 : Fz e7] : Fz (eH8 false e0 e1 e2 e3 e4 e5 e6 e7) := ⟨fun p => by simp only [eH8, PV.frz, frzs, h0.frz, h1.frz, h2.frz, h3.frz, h4.frz, h5.frz, h6.frz, h7.frz], fun _ => rfl⟩
instance {e : α → PV} {e' : β → PV} [DecidableEq α] [DecidableEq β] [h : EqE e] [h' : EqE e'] : EqE (eT2 e e') where
  d := fun p => .tuple [h.d p.1, h'.d p.2]
  n := max h.n h'.n + 1
  toD := fun p => by
    show (toDs [e p.1, e' p.2]).map _ = _
    simp only [toDs, h.toD, h'.toD, Option.map]
  lay := fun p => by
    show (_ && (_ && true)) = true
    rw [h.lay, h'.lay]; rfl
  dep := fun p => by
    show max _ (max _ 0) + 1 ≤ _
    have h1 := h.dep p.1
    have h2 := h'.dep p.2
    omega
  eqv := fun p q => by
    show (_ && (_ && true)) = _
    rw [h.eqv, h'.eqv]
    cases p; cases q
    simp only [Bool.and_true, Prod.mk.injEq, Bool.decide_and]
theorem fz_no (v : PV) : fzv false v = v := rfl
theorem fz_n : fzv true .non = .non := rfl
theorem fz_s {x : Str} : fzv true (.str x) = .str x := rfl
theorem fz_to {e e' : α → PV} [h : FzTo e e'] (a : α) : fzv true (e a) = e' a := h.to a
/-! ### a def -/
theorem run_simF {G : Prg} {F : Fns} {fu : Nat} {d : Dn} {xs : List PV} {e : DEnv} {v : ρ → PV} {ps : ρ → DEnv} {PX : ε → DEnv} {m : M (Flow ρ Empty ρ)} (h0 : xs.map some ++ List.replicate (d.N.length - xs.length) none = e)
    (h : Sim ⟨fun a e => v a = .non ∧ parL d.kp e = ps a, fun _ _ => False, fun a x e => x = v a ∧ parL d.kp e = ps a, fun _ e => ∃ z, parL d.kp e = PX z⟩ (d.body.ev G F fu e) m) : CF v ps PX (d.run G F fu xs) (toM m) := by
  refine ⟨?_⟩
  unfold Dn.run
  rw [h0]
  cases m with
  | bad => trivial
  | exc c => obtain ⟨e', h1, z, h2⟩ := h; rw [h1]; exact ⟨z, by rw [← h2]⟩
  | ok fl =>
    cases fl with
    | bk s => exact nomatch s
    | ct s => exact nomatch s
    | nx s =>
      obtain ⟨e', h1, h2, h3⟩ := h
      rw [h1]
      show CR.ok _ _ = .ok (v s) (ps s)
      rw [h2, h3]
    | rt s =>
      obtain ⟨x, e', h1, h2, h3⟩ := h
      rw [h1]
      show CR.ok _ _ = .ok (v s) (ps s)
      rw [h2, h3]
end SH

set_option Elab.async false
set_option linter.all false
set_option maxRecDepth 100000
set_option maxHeartbeats 4000000
/-! SH, part 5: for the mathematics over plain programs. -/
namespace SH
open PySem DN L2
variable {α β γ σ τ ρ : Type}
theorem sOk_le {n : Nat} (h : n ≤ 1000000) : sOk n = true := sOk_le' h
theorem szd {n : Nat} (h : n < 1000000) : decide (n < sizeLine) = true := decide_eq_true (size_lt h)
theorem rgOk_of {n : Int} (h : -1000000 ≤ n) (h2 : n ≤ 1000000) : rgOk n = true := by
  unfold rgOk
  rw [Bool.and_eq_true]
  exact ⟨decide_eq_true (by omega), decide_eq_true (by omega)⟩
theorem mem_rangeI {lo hi x : Int} : x ∈ rangeI lo hi ↔ lo ≤ x ∧ x < hi := by
  unfold rangeI
  rw [List.mem_map]
  constructor
  · rintro ⟨k, hk, rfl⟩
    rw [List.mem_range] at hk
    omega
  · intro h
    exact ⟨(x - lo).toNat, by rw [List.mem_range]; omega, by omega⟩
theorem rangeI_len {lo hi : Int} : (rangeI lo hi).length = (hi - lo).toNat := by unfold rangeI; simp
theorem rangeI_nat (n : Nat) : rangeI 0 (n : Int) = (List.range n).map (fun k : Nat => (k : Int)) := by
  unfold rangeI
  rw [Int.sub_zero, Int.toNat_natCast]
  apply List.map_congr_left
  intro a _
  exact Int.zero_add _
theorem atI_nat' {l : List α} {j : Nat} : atI l (j : Int) = l[j]? := by
  unfold atI ixN
  rw [if_pos (by omega)]
  by_cases h : (j : Int) < l.length
  · rw [if_pos h]; rfl
  · rw [if_neg h]; rw [List.getElem?_eq_none (by omega)]; rfl
theorem setI_nat {l : List α} {j : Nat} {y : α} (h : j < l.length) : setI l (j : Int) y = some (l.set j y) := by
  unfold setI ixN
  rw [if_pos (by omega), if_pos (by omega)]
  rfl
theorem forF_inv {f : α → σ → M (Flow σ σ ρ)} : ∀ (l : List α) (I : Nat → σ → Prop) (s : σ), I 0 s → (∀ i x s, l[i]? = some x → I i s → ∃ s', (f x s = .ok (.nx s') ∨ f x s = .ok (.ct s')) ∧ I (i + 1) s') → ∃ s', forF (τ := τ) f l s = .ok (.nx s') ∧ I l.length s'
  | [], I, s, h0, _ => ⟨s, rfl, h0⟩
  | x :: l, I, s, h0, h => by
    obtain ⟨s1, h1, h2⟩ := h 0 x s rfl h0
    obtain ⟨s', h3, h4⟩ := forF_inv l (fun i => I (i + 1)) s1 h2 fun i y s hy => h (i + 1) y s hy
    refine ⟨s', ?_, h4⟩
    unfold forF
    rcases h1 with h1 | h1 <;> (rw [h1]; exact h3)
theorem forF_unit {f : α → Unit → M (Flow Unit Unit ρ)} : ∀ (l : List α), (∀ x ∈ l, f x () = .ok (.nx ())) → forF (τ := τ) f l () = .ok (.nx ())
  | [], _ => rfl
  | x :: l, h => by
    unfold forF
    rw [h x List.mem_cons_self]
    exact forF_unit l fun y hy => h y (List.mem_cons_of_mem _ hy)
theorem forF_fold {f : α → σ → M (Flow σ σ ρ)} (g : σ → α → σ) (P : σ → Prop) : ∀ (l : List α) (s : σ), P s → (∀ x ∈ l, ∀ s, P s → f x s = .ok (.nx (g s x)) ∧ P (g s x)) → forF (τ := τ) f l s = .ok (.nx (l.foldl g s)) ∧ P (l.foldl g s)
  | [], s, h0, _ => ⟨rfl, h0⟩
  | x :: l, s, h0, h => by
    obtain ⟨h1, h2⟩ := h x List.mem_cons_self s h0
    unfold forF
    rw [h1]
    exact forF_fold g P l _ h2 fun y hy => h y (List.mem_cons_of_mem _ hy)
theorem lcF_eq {f : α → M (Flow Unit Empty β)} (c : α → Bool) (g : α → β) : ∀ l : List α, (∀ x ∈ l, f x = if c x then .ok (.rt (g x)) else .ok (.nx ())) → lcF f l = .ok ((l.filter c).map g)
  | [], _ => rfl
  | x :: l, h => by
    unfold lcF
    rw [h x List.mem_cons_self, lcF_eq c g l (fun y hy => h y (List.mem_cons_of_mem _ hy)), List.filter_cons]
    cases c x <;> rfl
theorem lcF_all {f : α → M (Flow Unit Empty β)} (g : α → β) : ∀ l : List α, (∀ x ∈ l, f x = .ok (.rt (g x))) → lcF f l = .ok (l.map g)
  | [], _ => rfl
  | x :: l, h => by
    unfold lcF
    rw [h x List.mem_cons_self, lcF_all g l (fun y hy => h y (List.mem_cons_of_mem _ hy))]
    rfl
theorem whileF_inv {t : σ → M Bool} {f : σ → M (Flow σ σ ρ)} (I P : σ → Prop) (μ : σ → Nat) (h : ∀ s, I s → ∃ b, t s = .ok b ∧ (b = false → P s) ∧ (b = true → ∃ s', (f s = .ok (.nx s') ∨ f s = .ok (.ct s')) ∧ I s' ∧ μ s' < μ s)) :
    ∀ (n : Nat) (s : σ), I s → μ s < n → ∃ s', whileF (τ := τ) t f n s = .ok (.nx s') ∧ P s'
  | 0, _, _, hl => nomatch hl
  | n + 1, s, i, hl => by
    obtain ⟨b, h1, h2, h3⟩ := h s i
    unfold whileF
    rw [h1]
    cases b with
    | false => exact ⟨s, rfl, h2 rfl⟩
    | true =>
      obtain ⟨s', h4, h5, h6⟩ := h3 rfl
      obtain ⟨s'', r, q⟩ := whileF_inv I P μ h n s' h5 (by omega)
      refine ⟨s'', ?_, q⟩
      simp only [M.bind_ok, if_true]
      rcases h4 with h4 | h4 <;> (rw [h4]; exact r)
end SH

set_option Elab.async false
set_option linter.all false
set_option maxRecDepth 100000
set_option maxHeartbeats 4000000
namespace K05
open PySem PySem.Spec PyProof.Rows L2 DN
def top (i : Nat) : Stmt := PySem.Challenge.pw_shadedstrings_k05_knots.main.body.getD i (.Pass ⟨0, 0, 0, 0⟩)
def met (i j : Nat) : Stmt := match top i with
  | .ClassDef (body := b) .. => b.getD j (.Pass ⟨0, 0, 0, 0⟩)
  | _ => .Pass ⟨0, 0, 0, 0⟩
def G : Prg where
  an := ["places", "panels", "ties", "near", "far", "with_panel", "with_tie"]
  cf := [[], [], [], [], [], [], [0, 1, 2, 3, 4]]
  cn := ["ShadeError", "BadNumber", "BadRow", "BadLot", "BadWeb", "TooMany", "Web"]
  gl := [("MOST_PLACES", .int (40)), ("MOST_PANELS", .int (60)), ("MOST_TIES", .int (60))]
  dn := ["_law_draws", "_law_take", "_law_any", "is_whole", "whole", "row_of", "two_places", "place_pairs", "", "_law_given", "_law_reach", "_law_reaches", "_law_int", "_law_same", "_law_ints", "reach_row", "move_lists", "reached", "back_lists", "knots", "knot_of", "_law_refused", "_law_asks", "", "", "_law_grown", "law"]
  np := [1, 2, 1, 1, 3, 1, 2, 2, 6, 1, 2, 1, 1, 2, 2, 2, 1, 2, 1, 1, 1, 2, 2, 3, 3, 3, 1]
  sub := [[true, false, false, false, false, false], [true, true, false, false, false, false], [true, false, true, false, false, false], [true, false, false, true, false, false], [true, false, false, false, true, false], [true, false, false, false, false, true]]
  mt := [(6, 5, 23), (6, 6, 24)]
  pt := []
  mks := [(6, 8, 3, [3, 4], []), (6, 8, 3, [], [.int (0), .int (1)])]
  lv := [1, 1, 2, 1, 2, 1, 3, 4, 5, 7, 1, 2, 1, 2, 3, 1, 1, 3, 1, 2, 3, 4, 5, 7, 7, 8, 9]
/-- _law_draws -/
def d0 : He.DefD := ⟨("_law_draws", none), "_law_draws", "_law_draws", defArgs (top 29), defBody (top 29), defScope (top 29), [], []⟩
def n0_b0 : Ss := (.cons (.ite (.cmp .Gt (.p (.var 3 ⟨186, 19, 186, 23⟩)) (.e (.q (.int (0) 0 ⟨186, 26, 186, 27⟩))) ⟨186, 19, 186, 27⟩) (.cons (.appV 1 (.bin .Mod (.e (.f1 .int (.p (.var 3 ⟨187, 35, 187, 39⟩)) ⟨187, 31, 187, 34⟩ ⟨187, 31, 187, 40⟩)) (.e (.q (.int (60) 0 ⟨187, 43, 187, 45⟩))) ⟨187, 31, 187, 45⟩) ⟨187, 20, 187, 23⟩ ⟨187, 20, 187, 30⟩ ⟨187, 20, 187, 46⟩ ⟨187, 20, 187, 46⟩)
 (.cons (.set 3 true (.bin .FloorDiv (.p (.var 3 ⟨188, 27, 188, 31⟩)) (.e (.q (.int (60) 0 ⟨188, 35, 188, 37⟩))) ⟨188, 27, 188, 37⟩) ⟨188, 20, 188, 24⟩ ⟨188, 20, 188, 37⟩)
 .nil)) .nil ⟨186, 16, 188, 37⟩)
 .nil)
def n0_f0 : S := (.forS (.one 5 ⟨185, 16, 185, 17⟩) (.r1 (.q (.int (48) 0 ⟨185, 27, 185, 29⟩)) ⟨185, 21, 185, 26⟩ ⟨185, 21, 185, 30⟩) n0_b0 ⟨185, 12, 188, 37⟩)
def n0_b1 : Ss := (.cons (.set 6 true (.bin .Mod (.e (.f1 .int (.e (.q (.bin .Add (.bin .Add (.bin .Add (.bin .Mult (.rd (.var 6 ⟨192, 27, 192, 31⟩)) (.int (69069) 0 ⟨192, 34, 192, 39⟩) ⟨192, 27, 192, 39⟩) (.bin .Mult (.rd (.var 5 ⟨192, 42, 192, 43⟩)) (.int (12345) 0 ⟨192, 46, 192, 51⟩) ⟨192, 42, 192, 51⟩) ⟨192, 27, 192, 51⟩) (.rd (.var 2 ⟨192, 54, 192, 56⟩)) ⟨192, 27, 192, 56⟩) (.int (1) 0 ⟨192, 59, 192, 60⟩) ⟨192, 27, 192, 60⟩))) ⟨192, 23, 192, 26⟩ ⟨192, 23, 192, 61⟩)) (.e (.q (.int (4294967291) 0 ⟨192, 64, 192, 74⟩))) ⟨192, 23, 192, 74⟩) ⟨192, 16, 192, 20⟩ ⟨192, 16, 192, 74⟩)
 (.cons (.appV 1 (.bin .FloorDiv (.p (.var 6 ⟨193, 27, 193, 31⟩)) (.e (.q (.int (64) 0 ⟨193, 35, 193, 37⟩))) ⟨193, 27, 193, 37⟩) ⟨193, 16, 193, 19⟩ ⟨193, 16, 193, 26⟩ ⟨193, 16, 193, 38⟩ ⟨193, 16, 193, 38⟩)
 .nil))
def n0_f1 : S := (.forS (.one 5 ⟨191, 16, 191, 17⟩) (.r1 (.q (.int (5) 0 ⟨191, 27, 191, 28⟩)) ⟨191, 21, 191, 26⟩ ⟨191, 21, 191, 29⟩) n0_b1 ⟨191, 12, 193, 38⟩)
def n0_b2 : Ss := (.cons (.set 3 true (.f1 .int (.e (.q (.sci (.var 0 ⟨179, 19, 179, 25⟩) (.rd (.var 2 ⟨179, 26, 179, 28⟩)) ⟨179, 19, 179, 29⟩))) ⟨179, 15, 179, 18⟩ ⟨179, 15, 179, 30⟩) ⟨179, 8, 179, 12⟩ ⟨179, 8, 179, 30⟩)
 (.cons (.set 4 true (.q (.int (0) 0 ⟨180, 16, 180, 17⟩)) ⟨180, 8, 180, 13⟩ ⟨180, 8, 180, 17⟩)
 (.cons (.ite (.cmp .Lt (.p (.var 3 ⟨181, 11, 181, 15⟩)) (.e (.q (.int (0) 0 ⟨181, 18, 181, 19⟩))) ⟨181, 11, 181, 19⟩) (.cons (.set 3 true (.bin .Sub (.e (.q (.int (0) 0 ⟨182, 19, 182, 20⟩))) (.p (.var 3 ⟨182, 23, 182, 27⟩)) ⟨182, 19, 182, 27⟩) ⟨182, 12, 182, 16⟩ ⟨182, 12, 182, 27⟩)
 (.cons (.set 4 true (.q (.int (1) 0 ⟨183, 20, 183, 21⟩)) ⟨183, 12, 183, 17⟩ ⟨183, 12, 183, 21⟩)
 .nil)) .nil ⟨181, 8, 183, 21⟩)
 (.cons (.ite (.cmp .GtE (.p (.var 3 ⟨184, 11, 184, 15⟩)) (.e (.q (.bin .Pow (.int (10) 0 ⟨184, 19, 184, 21⟩) (.int (18) 0 ⟨184, 25, 184, 27⟩) ⟨184, 19, 184, 27⟩))) ⟨184, 11, 184, 27⟩) (.cons n0_f0
 .nil) (.cons (.set 6 true (.bin .Mod (.e (.f1 .int (.e (.q (.bin .Add (.bin .Add (.bin .Add (.bin .Mult (.rd (.var 3 ⟨190, 23, 190, 27⟩)) (.int (16807) 0 ⟨190, 30, 190, 35⟩) ⟨190, 23, 190, 35⟩) (.bin .Mult (.rd (.var 2 ⟨190, 38, 190, 40⟩)) (.int (7919) 0 ⟨190, 43, 190, 47⟩) ⟨190, 38, 190, 47⟩) ⟨190, 23, 190, 47⟩) (.bin .Mult (.rd (.var 4 ⟨190, 50, 190, 55⟩)) (.int (104729) 0 ⟨190, 58, 190, 64⟩) ⟨190, 50, 190, 64⟩) ⟨190, 23, 190, 64⟩) (.int (3) 0 ⟨190, 67, 190, 68⟩) ⟨190, 23, 190, 68⟩))) ⟨190, 19, 190, 22⟩ ⟨190, 19, 190, 69⟩)) (.e (.q (.int (2147483647) 0 ⟨190, 72, 190, 82⟩))) ⟨190, 19, 190, 82⟩) ⟨190, 12, 190, 16⟩ ⟨190, 12, 190, 82⟩)
 (.cons n0_f1
 .nil)) ⟨184, 8, 193, 38⟩)
 .nil))))
def n0_f2 : S := (.forS (.one 2 ⟨178, 8, 178, 10⟩) (.r1 (.f2 .min (.q (.len (.var 0 ⟨178, 28, 178, 34⟩) ⟨178, 24, 178, 27⟩ ⟨178, 24, 178, 35⟩)) (.q (.int (63) 0 ⟨178, 37, 178, 39⟩)) ⟨178, 20, 178, 23⟩ ⟨178, 20, 178, 40⟩) ⟨178, 14, 178, 19⟩ ⟨178, 14, 178, 41⟩) n0_b2 ⟨178, 4, 193, 38⟩)
def n0 : Dn := ⟨["script", "row", "at", "cell", "shift", "k", "seed"], [true],
 (.cons (.set 1 false (.lst .nil ⟨177, 10, 177, 12⟩) ⟨177, 4, 177, 7⟩ ⟨177, 4, 177, 12⟩)
 (.cons n0_f2
 (.cons (.rev (.var 1 ⟨194, 4, 194, 7⟩) ⟨194, 4, 194, 15⟩ ⟨194, 4, 194, 17⟩ ⟨194, 4, 194, 17⟩)
 (.cons (.ret (.mv 1 ⟨195, 11, 195, 14⟩) ⟨195, 4, 195, 14⟩)
 .nil))))⟩
/-- _law_take -/
def d1 : He.DefD := ⟨("_law_take", none), "_law_take", "_law_take", defArgs (top 30), defBody (top 30), defScope (top 30), [], []⟩
def n1 : Dn := ⟨["row", "many"], [true, true],
 (.cons (.ite (.cmp .Eq (.e (.q (.len (.var 0 ⟨197, 11, 197, 14⟩) ⟨197, 7, 197, 10⟩ ⟨197, 7, 197, 15⟩))) (.e (.q (.int (0) 0 ⟨197, 19, 197, 20⟩))) ⟨197, 7, 197, 20⟩) (.cons (.ret (.q (.int (0) 0 ⟨198, 15, 198, 16⟩)) ⟨198, 8, 198, 16⟩)
 .nil) .nil ⟨197, 4, 198, 16⟩)
 (.cons (.ret (.bin .Mod (.e (.f1 .int (.e (.pop (.var 0 ⟨199, 15, 199, 18⟩) ⟨199, 15, 199, 22⟩ ⟨199, 15, 199, 24⟩)) ⟨199, 11, 199, 14⟩ ⟨199, 11, 199, 25⟩)) (.p (.var 1 ⟨199, 28, 199, 32⟩)) ⟨199, 11, 199, 32⟩) ⟨199, 4, 199, 32⟩)
 .nil))⟩
/-- _law_any -/
def d2 : He.DefD := ⟨("_law_any", none), "_law_any", "_law_any", defArgs (top 37), defBody (top 37), defScope (top 37), [], []⟩
def n2_b0 : Ss := (.cons (.set 4 true (.call 1 (.mv 0 ⟨230, 25, 230, 28⟩ (.e true (.q (.rd (.var 1 ⟨230, 30, 230, 36⟩))) .nil)) ⟨230, 15, 230, 24⟩ ⟨230, 15, 230, 37⟩) ⟨230, 8, 230, 12⟩ ⟨230, 8, 230, 37⟩)
 (.cons (.appV 2 (.tup (.cons (.q (.rd (.var 4 ⟨231, 23, 231, 27⟩))) (.cons (.bin .Mod (.e (.f1 .int (.e (.bin .Add (.e (.q (.bin .Add (.rd (.var 4 ⟨231, 33, 231, 37⟩)) (.int (1) 0 ⟨231, 40, 231, 41⟩) ⟨231, 33, 231, 41⟩))) (.e (.call 1 (.mv 0 ⟨231, 54, 231, 57⟩ (.e true (.q (.rd (.var 1 ⟨231, 59, 231, 65⟩))) .nil)) ⟨231, 44, 231, 53⟩ ⟨231, 44, 231, 66⟩)) ⟨231, 33, 231, 66⟩)) ⟨231, 29, 231, 32⟩ ⟨231, 29, 231, 67⟩)) (.p (.var 1 ⟨231, 70, 231, 76⟩)) ⟨231, 29, 231, 76⟩) .nil)) 0 ⟨231, 22, 231, 77⟩) ⟨231, 8, 231, 14⟩ ⟨231, 8, 231, 21⟩ ⟨231, 8, 231, 78⟩ ⟨231, 8, 231, 78⟩)
 .nil))
def n2_f0 : S := (.forS (.one 3 ⟨229, 8, 229, 9⟩) (.r1 (.ixE (.lst (.cons (.q (.int (5) 0 ⟨229, 20, 229, 21⟩)) (.cons (.q (.int (3) 0 ⟨229, 23, 229, 24⟩)) (.cons (.q (.int (8) 0 ⟨229, 26, 229, 27⟩)) (.cons (.q (.int (1) 0 ⟨229, 29, 229, 30⟩)) (.cons (.q (.int (0) 0 ⟨229, 32, 229, 33⟩)) (.cons (.q (.int (11) 0 ⟨229, 35, 229, 37⟩)) (.cons (.q (.int (2) 0 ⟨229, 39, 229, 40⟩)) (.cons (.q (.int (13) 0 ⟨229, 42, 229, 44⟩)) .nil)))))))) ⟨229, 19, 229, 45⟩) (.call 1 (.mv 0 ⟨229, 56, 229, 59⟩ (.e true (.q (.int (8) 0 ⟨229, 61, 229, 62⟩)) .nil)) ⟨229, 46, 229, 55⟩ ⟨229, 46, 229, 63⟩) ⟨229, 19, 229, 64⟩) ⟨229, 13, 229, 18⟩ ⟨229, 13, 229, 65⟩) n2_b0 ⟨229, 4, 231, 78⟩)
def n2_b1 : Ss := (.cons (.set 6 true (.call 1 (.mv 0 ⟨234, 24, 234, 27⟩ (.e true (.q (.rd (.var 1 ⟨234, 29, 234, 35⟩))) .nil)) ⟨234, 14, 234, 23⟩ ⟨234, 14, 234, 36⟩) ⟨234, 8, 234, 11⟩ ⟨234, 8, 234, 36⟩)
 (.cons (.appV 5 (.tup (.cons (.q (.rd (.var 6 ⟨235, 21, 235, 24⟩))) (.cons (.bin .Mod (.e (.f1 .int (.e (.bin .Add (.e (.q (.bin .Add (.rd (.var 6 ⟨235, 30, 235, 33⟩)) (.int (1) 0 ⟨235, 36, 235, 37⟩) ⟨235, 30, 235, 37⟩))) (.e (.call 1 (.mv 0 ⟨235, 50, 235, 53⟩ (.e true (.q (.rd (.var 1 ⟨235, 55, 235, 61⟩))) .nil)) ⟨235, 40, 235, 49⟩ ⟨235, 40, 235, 62⟩)) ⟨235, 30, 235, 62⟩)) ⟨235, 26, 235, 29⟩ ⟨235, 26, 235, 63⟩)) (.p (.var 1 ⟨235, 66, 235, 72⟩)) ⟨235, 26, 235, 72⟩) .nil)) 0 ⟨235, 20, 235, 73⟩) ⟨235, 8, 235, 12⟩ ⟨235, 8, 235, 19⟩ ⟨235, 8, 235, 74⟩ ⟨235, 8, 235, 74⟩)
 .nil))
def n2_f1 : S := (.forS (.one 3 ⟨233, 8, 233, 9⟩) (.r1 (.ixE (.lst (.cons (.q (.int (0) 0 ⟨233, 20, 233, 21⟩)) (.cons (.q (.int (1) 0 ⟨233, 23, 233, 24⟩)) (.cons (.q (.int (0) 0 ⟨233, 26, 233, 27⟩)) (.cons (.q (.int (2) 0 ⟨233, 29, 233, 30⟩)) (.cons (.q (.int (0) 0 ⟨233, 32, 233, 33⟩)) (.cons (.q (.int (4) 0 ⟨233, 35, 233, 36⟩)) .nil)))))) ⟨233, 19, 233, 37⟩) (.call 1 (.mv 0 ⟨233, 48, 233, 51⟩ (.e true (.q (.int (6) 0 ⟨233, 53, 233, 54⟩)) .nil)) ⟨233, 38, 233, 47⟩ ⟨233, 38, 233, 55⟩) ⟨233, 19, 233, 56⟩) ⟨233, 13, 233, 18⟩ ⟨233, 13, 233, 57⟩) n2_b1 ⟨233, 4, 235, 74⟩)
def n2 : Dn := ⟨["row", "places", "panels", "k", "tail", "ties", "one", "near", "far"], [true],
 (.cons (.set 1 true (.ixE (.lst (.cons (.q (.int (4) 0 ⟨227, 14, 227, 15⟩)) (.cons (.q (.int (3) 0 ⟨227, 17, 227, 18⟩)) (.cons (.q (.int (5) 0 ⟨227, 20, 227, 21⟩)) (.cons (.q (.int (2) 0 ⟨227, 23, 227, 24⟩)) (.cons (.q (.int (6) 0 ⟨227, 26, 227, 27⟩)) (.cons (.q (.int (9) 0 ⟨227, 29, 227, 30⟩)) (.cons (.q (.int (7) 0 ⟨227, 32, 227, 33⟩)) (.cons (.q (.int (8) 0 ⟨227, 35, 227, 36⟩)) .nil)))))))) ⟨227, 13, 227, 37⟩) (.call 1 (.mv 0 ⟨227, 48, 227, 51⟩ (.e true (.q (.int (8) 0 ⟨227, 53, 227, 54⟩)) .nil)) ⟨227, 38, 227, 47⟩ ⟨227, 38, 227, 55⟩) ⟨227, 13, 227, 56⟩) ⟨227, 4, 227, 10⟩ ⟨227, 4, 227, 56⟩)
 (.cons (.set 2 false (.lst .nil ⟨228, 13, 228, 15⟩) ⟨228, 4, 228, 10⟩ ⟨228, 4, 228, 15⟩)
 (.cons n2_f0
 (.cons (.set 5 false (.lst .nil ⟨232, 11, 232, 13⟩) ⟨232, 4, 232, 8⟩ ⟨232, 4, 232, 13⟩)
 (.cons n2_f1
 (.cons (.set 7 true (.call 1 (.mv 0 ⟨236, 21, 236, 24⟩ (.e true (.q (.rd (.var 1 ⟨236, 26, 236, 32⟩))) .nil)) ⟨236, 11, 236, 20⟩ ⟨236, 11, 236, 33⟩) ⟨236, 4, 236, 8⟩ ⟨236, 4, 236, 33⟩)
 (.cons (.set 8 true (.bin .Mod (.e (.f1 .int (.e (.bin .Add (.e (.q (.bin .Add (.rd (.var 7 ⟨237, 14, 237, 18⟩)) (.int (1) 0 ⟨237, 21, 237, 22⟩) ⟨237, 14, 237, 22⟩))) (.e (.call 1 (.mv 0 ⟨237, 35, 237, 38⟩ (.e true (.bin .Sub (.p (.var 1 ⟨237, 40, 237, 46⟩)) (.e (.q (.int (1) 0 ⟨237, 49, 237, 50⟩))) ⟨237, 40, 237, 50⟩) .nil)) ⟨237, 25, 237, 34⟩ ⟨237, 25, 237, 51⟩)) ⟨237, 14, 237, 51⟩)) ⟨237, 10, 237, 13⟩ ⟨237, 10, 237, 52⟩)) (.p (.var 1 ⟨237, 55, 237, 61⟩)) ⟨237, 10, 237, 61⟩) ⟨237, 4, 237, 7⟩ ⟨237, 4, 237, 61⟩)
 (.cons (.ret (.lst (.cons (.q (.rd (.var 1 ⟨238, 12, 238, 18⟩))) (.cons (.fz 2 ⟨238, 20, 238, 26⟩) (.cons (.fz 5 ⟨238, 28, 238, 32⟩) (.cons (.q (.rd (.var 7 ⟨238, 34, 238, 38⟩))) (.cons (.q (.rd (.var 8 ⟨238, 40, 238, 43⟩))) .nil))))) ⟨238, 11, 238, 44⟩) ⟨238, 4, 238, 44⟩)
 .nil))))))))⟩
/-- is_whole -/
def d3 : He.DefD := ⟨("is_whole", none), "is_whole", "is_whole", defArgs (top 9), defBody (top 9), defScope (top 9), [], []⟩
def n3 : Dn := ⟨["x"], [true],
 (.cons (.ret (.and (.isi (.rd (.var 0 ⟨19, 22, 19, 23⟩)) "int" ⟨19, 11, 19, 21⟩ ⟨19, 25, 19, 28⟩ ⟨19, 11, 19, 29⟩) (.cons (.not (.isi (.rd (.var 0 ⟨19, 50, 19, 51⟩)) "bool" ⟨19, 39, 19, 49⟩ ⟨19, 53, 19, 57⟩ ⟨19, 39, 19, 58⟩) ⟨19, 35, 19, 58⟩) .nil) ⟨19, 11, 19, 59⟩) ⟨19, 4, 19, 59⟩)
 .nil)⟩
/-- whole -/
def d4 : He.DefD := ⟨("whole", none), "whole", "whole", defArgs (top 10), defBody (top 10), defScope (top 10), [], []⟩
def n4 : Dn := ⟨["x", "low", "high"], [true, true, true],
 (.cons (.ite (.not (.v (.e (.call 3 (.e true (.q (.rd (.var 0 ⟨21, 20, 21, 21⟩))) .nil) ⟨21, 11, 21, 19⟩ ⟨21, 11, 21, 22⟩))) ⟨21, 7, 21, 22⟩) (.cons (.raise 1 "an integer is expected" 0 ⟨22, 14, 22, 23⟩ ⟨22, 24, 22, 48⟩ ⟨22, 14, 22, 49⟩ ⟨22, 8, 22, 49⟩)
 .nil) .nil ⟨21, 4, 22, 49⟩)
 (.cons (.ite (.and (.cons (.cmp .IsNot (.p (.var 1 ⟨23, 7, 23, 10⟩)) (.e (.q (.non 0 ⟨23, 18, 23, 22⟩))) ⟨23, 7, 23, 22⟩) (.cons (.cmp .Lt (.p (.var 0 ⟨23, 27, 23, 28⟩)) (.p (.var 1 ⟨23, 31, 23, 34⟩)) ⟨23, 27, 23, 34⟩) .nil)) ⟨23, 7, 23, 34⟩) (.cons (.raise 1 "an integer is below its bound" 0 ⟨24, 14, 24, 23⟩ ⟨24, 24, 24, 55⟩ ⟨24, 14, 24, 56⟩ ⟨24, 8, 24, 56⟩)
 .nil) .nil ⟨23, 4, 24, 56⟩)
 (.cons (.ite (.and (.cons (.cmp .IsNot (.p (.var 2 ⟨25, 7, 25, 11⟩)) (.e (.q (.non 0 ⟨25, 19, 25, 23⟩))) ⟨25, 7, 25, 23⟩) (.cons (.cmp .Gt (.p (.var 0 ⟨25, 28, 25, 29⟩)) (.p (.var 2 ⟨25, 32, 25, 36⟩)) ⟨25, 28, 25, 36⟩) .nil)) ⟨25, 7, 25, 36⟩) (.cons (.raise 1 "an integer is above its bound" 0 ⟨26, 14, 26, 23⟩ ⟨26, 24, 26, 55⟩ ⟨26, 14, 26, 56⟩ ⟨26, 8, 26, 56⟩)
 .nil) .nil ⟨25, 4, 26, 56⟩)
 (.cons (.ret (.q (.rd (.var 0 ⟨27, 11, 27, 12⟩))) ⟨27, 4, 27, 12⟩)
 .nil))))⟩
/-- row_of -/
def d5 : He.DefD := ⟨("row_of", none), "row_of", "row_of", defArgs (top 11), defBody (top 11), defScope (top 11), [], []⟩
def n5 : Dn := ⟨["xs"], [true],
 (.cons (.ite (.not (.v (.e (.isi2 (.rd (.var 0 ⟨29, 22, 29, 24⟩)) "list" "tuple" 0 ⟨29, 11, 29, 21⟩ ⟨29, 27, 29, 31⟩ ⟨29, 33, 29, 38⟩ ⟨29, 26, 29, 39⟩ ⟨29, 11, 29, 40⟩))) ⟨29, 7, 29, 40⟩) (.cons (.raise 2 "a list or tuple is expected" 0 ⟨30, 14, 30, 20⟩ ⟨30, 21, 30, 50⟩ ⟨30, 14, 30, 51⟩ ⟨30, 8, 30, 51⟩)
 .nil) .nil ⟨29, 4, 30, 51⟩)
 (.cons (.ret (.f1 .tuple (.p (.var 0 ⟨31, 17, 31, 19⟩)) ⟨31, 11, 31, 16⟩ ⟨31, 11, 31, 20⟩) ⟨31, 4, 31, 20⟩)
 .nil))⟩
/-- two_places -/
def d6 : He.DefD := ⟨("two_places", none), "two_places", "two_places", defArgs (top 23), defBody (top 23), defScope (top 23), [], []⟩
def n6 : Dn := ⟨["pair", "places", "two"], [true, true],
 (.cons (.set 2 true (.call 5 (.e true (.q (.rd (.var 0 ⟨89, 17, 89, 21⟩))) .nil) ⟨89, 10, 89, 16⟩ ⟨89, 10, 89, 22⟩) ⟨89, 4, 89, 7⟩ ⟨89, 4, 89, 22⟩)
 (.cons (.ite (.cmp .NotEq (.e (.q (.len (.var 2 ⟨90, 11, 90, 14⟩) ⟨90, 7, 90, 10⟩ ⟨90, 7, 90, 15⟩))) (.e (.q (.int (2) 0 ⟨90, 19, 90, 20⟩))) ⟨90, 7, 90, 20⟩) (.cons (.raise 2 "a pair of places has two members" 0 ⟨91, 14, 91, 20⟩ ⟨91, 21, 91, 55⟩ ⟨91, 14, 91, 56⟩ ⟨91, 8, 91, 56⟩)
 .nil) .nil ⟨90, 4, 91, 56⟩)
 (.cons (.ret (.tup (.cons (.call 4 (.e true (.q (.rd (.ix (.var 2 ⟨92, 18, 92, 21⟩) (.int (0) 0 ⟨92, 22, 92, 23⟩) ⟨92, 18, 92, 24⟩))) (.e true (.q (.int (0) 0 ⟨92, 26, 92, 27⟩)) (.e true (.bin .Sub (.p (.var 1 ⟨92, 29, 92, 35⟩)) (.e (.q (.int (1) 0 ⟨92, 38, 92, 39⟩))) ⟨92, 29, 92, 39⟩) .nil))) ⟨92, 12, 92, 17⟩ ⟨92, 12, 92, 40⟩) (.cons (.call 4 (.e true (.q (.rd (.ix (.var 2 ⟨92, 48, 92, 51⟩) (.int (1) 0 ⟨92, 52, 92, 53⟩) ⟨92, 48, 92, 54⟩))) (.e true (.q (.int (0) 0 ⟨92, 56, 92, 57⟩)) (.e true (.bin .Sub (.p (.var 1 ⟨92, 59, 92, 65⟩)) (.e (.q (.int (1) 0 ⟨92, 68, 92, 69⟩))) ⟨92, 59, 92, 69⟩) .nil))) ⟨92, 42, 92, 47⟩ ⟨92, 42, 92, 70⟩) .nil)) 0 ⟨92, 11, 92, 71⟩) ⟨92, 4, 92, 71⟩)
 .nil)))⟩
/-- place_pairs -/
def d7 : He.DefD := ⟨("place_pairs", none), "place_pairs", "place_pairs", defArgs (top 24), defBody (top 24), defScope (top 24), [], []⟩
def n7_e0 : E := (.call 6 (.e true (.q (.rd (.var 3 ⟨95, 29, 95, 33⟩))) (.e true (.q (.rd (.var 1 ⟨95, 35, 95, 41⟩))) .nil)) ⟨95, 18, 95, 28⟩ ⟨95, 18, 95, 42⟩)
def n7_t0 : Ts := .nil
def n7_l0 : E := (.lc n7_e0 (.one 3 ⟨95, 47, 95, 51⟩) (.e (.q (.rd (.var 2 ⟨95, 55, 95, 58⟩)))) n7_t0 ⟨.function, [(".0", .local), ("pair", .local), ("two_places", .globalImplicit), ("places", .free)], false, false, []⟩ [("pair", 3)] ⟨95, 17, 95, 59⟩)
def n7 : Dn := ⟨["rows", "places", "row", "pair"], [true, true],
 (.cons (.set 2 true (.call 5 (.e true (.q (.rd (.var 0 ⟨94, 17, 94, 21⟩))) .nil) ⟨94, 10, 94, 16⟩ ⟨94, 10, 94, 22⟩) ⟨94, 4, 94, 7⟩ ⟨94, 4, 94, 22⟩)
 (.cons (.ret (.f1 .tuple (.e n7_l0) ⟨95, 11, 95, 16⟩ ⟨95, 11, 95, 60⟩) ⟨95, 4, 95, 60⟩)
 .nil))⟩
/-- Web.__init__ -/
def d8 : He.DefD := ⟨("Web", some "__init__"), "__init__", "Web.__init__", defArgs (met 27 0), defBody (met 27 0), defScope (met 27 0), [.adr (He.dflAt ("Web", some "__init__") 0)], [("near", .int (0)), ("far", .int (1))]⟩
def n8 : Dn := ⟨["self", "places", "panels", "ties", "near", "far", "arrows", "bars"], [true, true, true, true, true, true],
 (.cons (.expr (.call 4 (.e true (.q (.rd (.var 1 ⟨111, 14, 111, 20⟩))) (.e true (.q (.int (2) 0 ⟨111, 22, 111, 23⟩)) (.e true (.q (.gl 0 ⟨111, 25, 111, 36⟩)) .nil))) ⟨111, 8, 111, 13⟩ ⟨111, 8, 111, 37⟩) ⟨111, 8, 111, 37⟩)
 (.cons (.set 6 true (.call 7 (.e true (.q (.rd (.var 2 ⟨112, 29, 112, 35⟩))) (.e true (.q (.rd (.var 1 ⟨112, 37, 112, 43⟩))) .nil)) ⟨112, 17, 112, 28⟩ ⟨112, 17, 112, 44⟩) ⟨112, 8, 112, 14⟩ ⟨112, 8, 112, 44⟩)
 (.cons (.set 7 true (.call 7 (.e true (.q (.rd (.var 3 ⟨113, 27, 113, 31⟩))) (.e true (.q (.rd (.var 1 ⟨113, 33, 113, 39⟩))) .nil)) ⟨113, 15, 113, 26⟩ ⟨113, 15, 113, 40⟩) ⟨113, 8, 113, 12⟩ ⟨113, 8, 113, 40⟩)
 (.cons (.expr (.call 4 (.e true (.q (.rd (.var 4 ⟨114, 14, 114, 18⟩))) (.e true (.q (.int (0) 0 ⟨114, 20, 114, 21⟩)) (.e true (.bin .Sub (.p (.var 1 ⟨114, 23, 114, 29⟩)) (.e (.q (.int (1) 0 ⟨114, 32, 114, 33⟩))) ⟨114, 23, 114, 33⟩) .nil))) ⟨114, 8, 114, 13⟩ ⟨114, 8, 114, 34⟩) ⟨114, 8, 114, 34⟩)
 (.cons (.expr (.call 4 (.e true (.q (.rd (.var 5 ⟨115, 14, 115, 17⟩))) (.e true (.q (.int (0) 0 ⟨115, 19, 115, 20⟩)) (.e true (.bin .Sub (.p (.var 1 ⟨115, 22, 115, 28⟩)) (.e (.q (.int (1) 0 ⟨115, 31, 115, 32⟩))) ⟨115, 22, 115, 32⟩) .nil))) ⟨115, 8, 115, 13⟩ ⟨115, 8, 115, 33⟩) ⟨115, 8, 115, 33⟩)
 (.cons (.ite (.cmp .Eq (.p (.var 4 ⟨116, 11, 116, 15⟩)) (.p (.var 5 ⟨116, 19, 116, 22⟩)) ⟨116, 11, 116, 22⟩) (.cons (.raise 4 "the ends are one place" 0 ⟨117, 18, 117, 24⟩ ⟨117, 25, 117, 49⟩ ⟨117, 18, 117, 50⟩ ⟨117, 12, 117, 50⟩)
 .nil) .nil ⟨116, 8, 117, 50⟩)
 (.cons (.ite (.cmp .Gt (.e (.q (.len (.var 6 ⟨118, 15, 118, 21⟩) ⟨118, 11, 118, 14⟩ ⟨118, 11, 118, 22⟩))) (.e (.q (.gl 1 ⟨118, 25, 118, 36⟩))) ⟨118, 11, 118, 36⟩) (.cons (.raise 5 "a web has too many panels" 0 ⟨119, 18, 119, 25⟩ ⟨119, 26, 119, 53⟩ ⟨119, 18, 119, 54⟩ ⟨119, 12, 119, 54⟩)
 .nil) .nil ⟨118, 8, 119, 54⟩)
 (.cons (.ite (.cmp .Gt (.e (.q (.len (.var 7 ⟨120, 15, 120, 19⟩) ⟨120, 11, 120, 14⟩ ⟨120, 11, 120, 20⟩))) (.e (.q (.gl 2 ⟨120, 23, 120, 32⟩))) ⟨120, 11, 120, 32⟩) (.cons (.raise 5 "a web has too many ties" 0 ⟨121, 18, 121, 25⟩ ⟨121, 26, 121, 51⟩ ⟨121, 18, 121, 52⟩ ⟨121, 12, 121, 52⟩)
 .nil) .nil ⟨120, 8, 121, 52⟩)
 (.cons (.setFld (.var 0 ⟨122, 8, 122, 12⟩) 0 (.q (.rd (.var 1 ⟨122, 22, 122, 28⟩))) ⟨122, 8, 122, 19⟩ ⟨122, 8, 122, 28⟩)
 (.cons (.setFld (.var 0 ⟨123, 8, 123, 12⟩) 1 (.q (.rd (.var 6 ⟨123, 22, 123, 28⟩))) ⟨123, 8, 123, 19⟩ ⟨123, 8, 123, 28⟩)
 (.cons (.setFld (.var 0 ⟨124, 8, 124, 12⟩) 2 (.q (.rd (.var 7 ⟨124, 20, 124, 24⟩))) ⟨124, 8, 124, 17⟩ ⟨124, 8, 124, 24⟩)
 (.cons (.setFld (.var 0 ⟨125, 8, 125, 12⟩) 3 (.q (.rd (.var 4 ⟨125, 20, 125, 24⟩))) ⟨125, 8, 125, 17⟩ ⟨125, 8, 125, 24⟩)
 (.cons (.setFld (.var 0 ⟨126, 8, 126, 12⟩) 4 (.q (.rd (.var 5 ⟨126, 19, 126, 22⟩))) ⟨126, 8, 126, 16⟩ ⟨126, 8, 126, 22⟩)
 .nil)))))))))))))⟩
/-- _law_given -/
def d9 : He.DefD := ⟨("_law_given", none), "_law_given", "_law_given", defArgs (top 34), defBody (top 34), defScope (top 34), [], []⟩
def n9 : Dn := ⟨["web"], [true],
 (.cons (.ret (.make 0 (.e true (.q (.rd (.ix (.var 0 ⟨216, 15, 216, 18⟩) (.int (0) 0 ⟨216, 19, 216, 20⟩) ⟨216, 15, 216, 21⟩))) (.e true (.f1 .list (.p (.ix (.var 0 ⟨216, 28, 216, 31⟩) (.int (1) 0 ⟨216, 32, 216, 33⟩) ⟨216, 28, 216, 34⟩)) ⟨216, 23, 216, 27⟩ ⟨216, 23, 216, 35⟩) (.e true (.f1 .list (.p (.ix (.var 0 ⟨216, 42, 216, 45⟩) (.int (2) 0 ⟨216, 46, 216, 47⟩) ⟨216, 42, 216, 48⟩)) ⟨216, 37, 216, 41⟩ ⟨216, 37, 216, 49⟩) .nil))) (.e true (.q (.rd (.ix (.var 0 ⟨216, 56, 216, 59⟩) (.int (3) 0 ⟨216, 60, 216, 61⟩) ⟨216, 56, 216, 62⟩))) (.e true (.q (.rd (.ix (.var 0 ⟨216, 68, 216, 71⟩) (.int (4) 0 ⟨216, 72, 216, 73⟩) ⟨216, 68, 216, 74⟩))) .nil)) [(3, ⟨216, 51, 216, 62⟩), (4, ⟨216, 64, 216, 74⟩)] ⟨216, 11, 216, 14⟩ ⟨216, 11, 216, 75⟩) ⟨216, 4, 216, 75⟩)
 .nil)⟩
/-- _law_reach -/
def d10 : He.DefD := ⟨("_law_reach", none), "_law_reach", "_law_reach", defArgs (top 32), defBody (top 32), defScope (top 32), [], []⟩
def n10_e0 : E := (.cmp .Eq (.p (.var 8 ⟨203, 12, 203, 17⟩)) (.p (.var 1 ⟨203, 21, 203, 26⟩)) ⟨203, 12, 203, 26⟩)
def n10_t0 : Ts := .nil
def n10_l0 : E := (.lc n10_e0 (.one 8 ⟨203, 31, 203, 36⟩) (.r1 (.q (.rd (.ix (.var 0 ⟨203, 46, 203, 49⟩) (.int (0) 0 ⟨203, 50, 203, 51⟩) ⟨203, 46, 203, 52⟩))) ⟨203, 40, 203, 45⟩ ⟨203, 40, 203, 53⟩) n10_t0 ⟨.function, [(".0", .local), ("place", .local), ("start", .free)], false, false, []⟩ [("place", 8)] ⟨203, 11, 203, 54⟩)
def n10_b0 : Ss := (.cons (.ite (.v (.p (.ix (.var 2 ⟨206, 15, 206, 19⟩) (.rd (.var 4 ⟨206, 20, 206, 24⟩)) ⟨206, 15, 206, 25⟩))) (.cons (.setIx (.var 2 ⟨207, 16, 207, 20⟩) (.rd (.var 5 ⟨207, 21, 207, 25⟩)) (.q (.bl true 0 ⟨207, 29, 207, 33⟩)) ⟨207, 16, 207, 26⟩ ⟨207, 16, 207, 33⟩)
 .nil) .nil ⟨206, 12, 207, 33⟩)
 .nil)
def n10_f0 : S := (.forS (.tup [(4, ⟨205, 12, 205, 16⟩), (5, ⟨205, 18, 205, 22⟩)] 0 ⟨205, 12, 205, 22⟩) (.e (.q (.rd (.ix (.var 0 ⟨205, 26, 205, 29⟩) (.int (1) 0 ⟨205, 30, 205, 31⟩) ⟨205, 26, 205, 32⟩)))) n10_b0 ⟨205, 8, 207, 33⟩)
def n10_b1 : Ss := (.cons (.ite (.or (.cons (.v (.p (.ix (.var 2 ⟨209, 15, 209, 19⟩) (.rd (.var 6 ⟨209, 20, 209, 23⟩)) ⟨209, 15, 209, 24⟩))) (.cons (.v (.p (.ix (.var 2 ⟨209, 28, 209, 32⟩) (.rd (.var 7 ⟨209, 33, 209, 36⟩)) ⟨209, 28, 209, 37⟩))) .nil)) ⟨209, 15, 209, 37⟩) (.cons (.setIx (.var 2 ⟨210, 16, 210, 20⟩) (.rd (.var 6 ⟨210, 21, 210, 24⟩)) (.q (.bl true 0 ⟨210, 28, 210, 32⟩)) ⟨210, 16, 210, 25⟩ ⟨210, 16, 210, 32⟩)
 (.cons (.setIx (.var 2 ⟨211, 16, 211, 20⟩) (.rd (.var 7 ⟨211, 21, 211, 24⟩)) (.q (.bl true 0 ⟨211, 28, 211, 32⟩)) ⟨211, 16, 211, 25⟩ ⟨211, 16, 211, 32⟩)
 .nil)) .nil ⟨209, 12, 211, 32⟩)
 .nil)
def n10_f1 : S := (.forS (.tup [(6, ⟨208, 12, 208, 15⟩), (7, ⟨208, 17, 208, 20⟩)] 0 ⟨208, 12, 208, 20⟩) (.e (.q (.rd (.ix (.var 0 ⟨208, 24, 208, 27⟩) (.int (2) 0 ⟨208, 28, 208, 29⟩) ⟨208, 24, 208, 30⟩)))) n10_b1 ⟨208, 8, 211, 32⟩)
def n10_b2 : Ss := (.cons n10_f0
 (.cons n10_f1
 .nil))
def n10_f2 : S := (.forS (.one 3 ⟨204, 8, 204, 9⟩) (.r1 (.q (.rd (.ix (.var 0 ⟨204, 19, 204, 22⟩) (.int (0) 0 ⟨204, 23, 204, 24⟩) ⟨204, 19, 204, 25⟩))) ⟨204, 13, 204, 18⟩ ⟨204, 13, 204, 26⟩) n10_b2 ⟨204, 4, 211, 32⟩)
def n10 : Dn := ⟨["web", "start", "seen", "k", "tail", "head", "one", "two", "place"], [true, true],
 (.cons (.set 2 false n10_l0 ⟨203, 4, 203, 8⟩ ⟨203, 4, 203, 54⟩)
 (.cons n10_f2
 (.cons (.ret (.mv 2 ⟨212, 11, 212, 15⟩) ⟨212, 4, 212, 15⟩)
 .nil)))⟩
/-- _law_reaches -/
def d11 : He.DefD := ⟨("_law_reaches", none), "_law_reaches", "_law_reaches", defArgs (top 33), defBody (top 33), defScope (top 33), [], []⟩
def n11_e0 : E := (.call 10 (.e true (.q (.rd (.var 0 ⟨214, 23, 214, 26⟩))) (.e true (.q (.rd (.var 1 ⟨214, 28, 214, 33⟩))) .nil)) ⟨214, 12, 214, 22⟩ ⟨214, 12, 214, 34⟩)
def n11_t0 : Ts := .nil
def n11_l0 : E := (.lc n11_e0 (.one 1 ⟨214, 39, 214, 44⟩) (.r1 (.q (.rd (.ix (.var 0 ⟨214, 54, 214, 57⟩) (.int (0) 0 ⟨214, 58, 214, 59⟩) ⟨214, 54, 214, 60⟩))) ⟨214, 48, 214, 53⟩ ⟨214, 48, 214, 61⟩) n11_t0 ⟨.function, [(".0", .local), ("place", .local), ("_law_reach", .globalImplicit), ("web", .free)], false, false, []⟩ [("place", 1)] ⟨214, 11, 214, 62⟩)
def n11 : Dn := ⟨["web", "place"], [true],
 (.cons (.ret n11_l0 ⟨214, 4, 214, 62⟩)
 .nil)⟩
/-- _law_int -/
def d12 : He.DefD := ⟨("_law_int", none), "_law_int", "_law_int", defArgs (top 31), defBody (top 31), defScope (top 31), [], []⟩
def n12 : Dn := ⟨["thing"], [true],
 (.cons (.ret (.and (.isi (.rd (.var 0 ⟨201, 22, 201, 27⟩)) "int" ⟨201, 11, 201, 21⟩ ⟨201, 29, 201, 32⟩ ⟨201, 11, 201, 33⟩) (.cons (.not (.isi (.rd (.var 0 ⟨201, 54, 201, 59⟩)) "bool" ⟨201, 43, 201, 53⟩ ⟨201, 61, 201, 65⟩ ⟨201, 43, 201, 66⟩) ⟨201, 39, 201, 66⟩) .nil) ⟨201, 11, 201, 67⟩) ⟨201, 4, 201, 67⟩)
 .nil)⟩
/-- _law_same -/
def d13 : He.DefD := ⟨("_law_same", none), "_law_same", "_law_same", defArgs (top 35), defBody (top 35), defScope (top 35), [], []⟩
def n13 : Dn := ⟨["thing", "due"], [true, true],
 (.cons (.ret (.and (.call 12 (.e true (.q (.rd (.var 0 ⟨218, 20, 218, 25⟩))) .nil) ⟨218, 11, 218, 19⟩ ⟨218, 11, 218, 26⟩) (.cons (.cmp .Eq (.p (.var 0 ⟨218, 31, 218, 36⟩)) (.p (.var 1 ⟨218, 40, 218, 43⟩)) ⟨218, 31, 218, 43⟩) .nil) ⟨218, 11, 218, 43⟩) ⟨218, 4, 218, 43⟩)
 .nil)⟩
/-- _law_ints -/
def d14 : He.DefD := ⟨("_law_ints", none), "_law_ints", "_law_ints", defArgs (top 36), defBody (top 36), defScope (top 36), [], []⟩
def n14_b0 : Ss := (.cons (.ite (.not (.v (.e (.call 13 (.e true (.q (.rd (.ix (.var 0 ⟨223, 25, 223, 30⟩) (.rd (.var 2 ⟨223, 31, 223, 32⟩)) ⟨223, 25, 223, 33⟩))) (.e true (.q (.rd (.ix (.var 1 ⟨223, 35, 223, 38⟩) (.rd (.var 2 ⟨223, 39, 223, 40⟩)) ⟨223, 35, 223, 41⟩))) .nil)) ⟨223, 15, 223, 24⟩ ⟨223, 15, 223, 42⟩))) ⟨223, 11, 223, 42⟩) (.cons (.ret (.q (.bl false 0 ⟨224, 19, 224, 24⟩)) ⟨224, 12, 224, 24⟩)
 .nil) .nil ⟨223, 8, 224, 24⟩)
 .nil)
def n14_f0 : S := (.forS (.one 2 ⟨222, 8, 222, 9⟩) (.r1 (.q (.len (.var 1 ⟨222, 23, 222, 26⟩) ⟨222, 19, 222, 22⟩ ⟨222, 19, 222, 27⟩)) ⟨222, 13, 222, 18⟩ ⟨222, 13, 222, 28⟩) n14_b0 ⟨222, 4, 224, 24⟩)
def n14 : Dn := ⟨["thing", "due", "k"], [true, true],
 (.cons (.ite (.or (.cons (.not (.v (.e (.isi (.rd (.var 0 ⟨220, 22, 220, 27⟩)) "tuple" ⟨220, 11, 220, 21⟩ ⟨220, 29, 220, 34⟩ ⟨220, 11, 220, 35⟩))) ⟨220, 7, 220, 35⟩) (.cons (.cmp .NotEq (.e (.q (.len (.var 0 ⟨220, 43, 220, 48⟩) ⟨220, 39, 220, 42⟩ ⟨220, 39, 220, 49⟩))) (.e (.q (.len (.var 1 ⟨220, 57, 220, 60⟩) ⟨220, 53, 220, 56⟩ ⟨220, 53, 220, 61⟩))) ⟨220, 39, 220, 61⟩) .nil)) ⟨220, 7, 220, 61⟩) (.cons (.ret (.q (.bl false 0 ⟨221, 15, 221, 20⟩)) ⟨221, 8, 221, 20⟩)
 .nil) .nil ⟨220, 4, 221, 20⟩)
 (.cons n14_f0
 (.cons (.ret (.q (.bl true 0 ⟨225, 11, 225, 15⟩)) ⟨225, 4, 225, 15⟩)
 .nil)))⟩
/-- reach_row -/
def d15 : He.DefD := ⟨("reach_row", none), "reach_row", "reach_row", defArgs (top 15), defBody (top 15), defScope (top 15), [], []⟩
def n15_e0 : E := (.q (.bl false 0 ⟨50, 13, 50, 18⟩))
def n15_t0 : Ts := .nil
def n15_l0 : E := (.lc n15_e0 (.one 6 ⟨50, 23, 50, 24⟩) (.e (.q (.rd (.var 0 ⟨50, 28, 50, 33⟩)))) n15_t0 ⟨.function, [(".0", .local), ("_", .local)], false, false, []⟩ [("_", 6)] ⟨50, 12, 50, 34⟩)
def n15_b0 : Ss := (.cons (.ite (.not (.v (.p (.ix (.var 2 ⟨56, 19, 56, 24⟩) (.rd (.var 5 ⟨56, 25, 56, 27⟩)) ⟨56, 19, 56, 28⟩))) ⟨56, 15, 56, 28⟩) (.cons (.setIx (.var 2 ⟨57, 16, 57, 21⟩) (.rd (.var 5 ⟨57, 22, 57, 24⟩)) (.q (.bl true 0 ⟨57, 28, 57, 32⟩)) ⟨57, 16, 57, 25⟩ ⟨57, 16, 57, 32⟩)
 (.cons (.appQ (.var 3 ⟨58, 16, 58, 23⟩) (.rd (.var 5 ⟨58, 31, 58, 33⟩)) ⟨58, 16, 58, 30⟩ ⟨58, 16, 58, 34⟩ ⟨58, 16, 58, 34⟩)
 .nil)) .nil ⟨56, 12, 58, 34⟩)
 .nil)
def n15_f0 : S := (.forS (.one 5 ⟨55, 12, 55, 14⟩) (.e (.q (.rd (.ix (.var 0 ⟨55, 18, 55, 23⟩) (.rd (.var 4 ⟨55, 24, 55, 26⟩)) ⟨55, 18, 55, 27⟩)))) n15_b0 ⟨55, 8, 58, 34⟩)
def n15_b1 : Ss := (.cons (.set 4 true (.pop (.var 3 ⟨54, 13, 54, 20⟩) ⟨54, 13, 54, 24⟩ ⟨54, 13, 54, 26⟩) ⟨54, 8, 54, 10⟩ ⟨54, 8, 54, 26⟩)
 (.cons n15_f0
 .nil))
def n15_w0 : S := (.whileS (.cmp .Gt (.e (.q (.len (.var 3 ⟨53, 14, 53, 21⟩) ⟨53, 10, 53, 13⟩ ⟨53, 10, 53, 22⟩))) (.e (.q (.int (0) 0 ⟨53, 25, 53, 26⟩))) ⟨53, 10, 53, 26⟩) n15_b1 ⟨53, 4, 58, 34⟩)
def n15 : Dn := ⟨["ahead", "place", "found", "waiting", "at", "to", "_"], [true, true],
 (.cons (.set 2 false n15_l0 ⟨50, 4, 50, 9⟩ ⟨50, 4, 50, 34⟩)
 (.cons (.setIx (.var 2 ⟨51, 4, 51, 9⟩) (.rd (.var 1 ⟨51, 10, 51, 15⟩)) (.q (.bl true 0 ⟨51, 19, 51, 23⟩)) ⟨51, 4, 51, 16⟩ ⟨51, 4, 51, 23⟩)
 (.cons (.set 3 false (.lst (.cons (.q (.rd (.var 1 ⟨52, 15, 52, 20⟩))) .nil) ⟨52, 14, 52, 21⟩) ⟨52, 4, 52, 11⟩ ⟨52, 4, 52, 21⟩)
 (.cons n15_w0
 (.cons (.ret (.mv 2 ⟨59, 11, 59, 16⟩) ⟨59, 4, 59, 16⟩)
 .nil)))))⟩
/-- move_lists -/
def d16 : He.DefD := ⟨("move_lists", none), "move_lists", "move_lists", defArgs (top 13), defBody (top 13), defScope (top 13), [], []⟩
def n16_e0 : E := (.lst .nil ⟨34, 13, 34, 15⟩)
def n16_t0 : Ts := .nil
def n16_l0 : E := (.lc n16_e0 (.one 6 ⟨34, 20, 34, 21⟩) (.r1 (.q (.rd (.fld (.var 0 ⟨34, 31, 34, 34⟩) 0 ⟨34, 31, 34, 41⟩))) ⟨34, 25, 34, 30⟩ ⟨34, 25, 34, 42⟩) n16_t0 ⟨.function, [(".0", .local), ("_", .local)], false, false, []⟩ [("_", 6)] ⟨34, 12, 34, 43⟩)
def n16_b0 : Ss := (.cons (.appQ (.ix (.var 1 ⟨36, 8, 36, 13⟩) (.rd (.var 2 ⟨36, 14, 36, 18⟩)) ⟨36, 8, 36, 19⟩) (.rd (.var 3 ⟨36, 27, 36, 31⟩)) ⟨36, 8, 36, 26⟩ ⟨36, 8, 36, 32⟩ ⟨36, 8, 36, 32⟩)
 .nil)
def n16_f0 : S := (.forS (.tup [(2, ⟨35, 8, 35, 12⟩), (3, ⟨35, 14, 35, 18⟩)] 0 ⟨35, 8, 35, 18⟩) (.e (.q (.rd (.fld (.var 0 ⟨35, 22, 35, 25⟩) 1 ⟨35, 22, 35, 32⟩)))) n16_b0 ⟨35, 4, 36, 32⟩)
def n16_b1 : Ss := (.cons (.appQ (.ix (.var 1 ⟨38, 8, 38, 13⟩) (.rd (.var 4 ⟨38, 14, 38, 15⟩)) ⟨38, 8, 38, 16⟩) (.rd (.var 5 ⟨38, 24, 38, 25⟩)) ⟨38, 8, 38, 23⟩ ⟨38, 8, 38, 26⟩ ⟨38, 8, 38, 26⟩)
 (.cons (.appQ (.ix (.var 1 ⟨39, 8, 39, 13⟩) (.rd (.var 5 ⟨39, 14, 39, 15⟩)) ⟨39, 8, 39, 16⟩) (.rd (.var 4 ⟨39, 24, 39, 25⟩)) ⟨39, 8, 39, 23⟩ ⟨39, 8, 39, 26⟩ ⟨39, 8, 39, 26⟩)
 .nil))
def n16_f1 : S := (.forS (.tup [(4, ⟨37, 8, 37, 9⟩), (5, ⟨37, 11, 37, 12⟩)] 0 ⟨37, 8, 37, 12⟩) (.e (.q (.rd (.fld (.var 0 ⟨37, 16, 37, 19⟩) 2 ⟨37, 16, 37, 24⟩)))) n16_b1 ⟨37, 4, 39, 26⟩)
def n16 : Dn := ⟨["web", "ahead", "tail", "head", "a", "b", "_"], [true],
 (.cons (.set 1 false n16_l0 ⟨34, 4, 34, 9⟩ ⟨34, 4, 34, 43⟩)
 (.cons n16_f0
 (.cons n16_f1
 (.cons (.ret (.mv 1 ⟨40, 11, 40, 16⟩) ⟨40, 4, 40, 16⟩)
 .nil))))⟩
/-- reached -/
def d17 : He.DefD := ⟨("reached", none), "reached", "reached", defArgs (top 16), defBody (top 16), defScope (top 16), [], []⟩
def n17_e0 : E := (.q (.rd (.var 3 ⟨63, 18, 63, 19⟩)))
def n17_t0 : Ts := (.cons (.v (.p (.ix (.var 2 ⟨63, 50, 63, 53⟩) (.rd (.var 3 ⟨63, 54, 63, 55⟩)) ⟨63, 50, 63, 56⟩))) .nil)
def n17_l0 : E := (.lc n17_e0 (.one 3 ⟨63, 24, 63, 25⟩) (.r1 (.q (.rd (.fld (.var 0 ⟨63, 35, 63, 38⟩) 0 ⟨63, 35, 63, 45⟩))) ⟨63, 29, 63, 34⟩ ⟨63, 29, 63, 46⟩) n17_t0 ⟨.function, [(".0", .local), ("x", .local), ("row", .free)], false, false, []⟩ [("x", 3)] ⟨63, 17, 63, 57⟩)
def n17 : Dn := ⟨["web", "place", "row", "x"], [true, true],
 (.cons (.expr (.call 4 (.e true (.q (.rd (.var 1 ⟨61, 10, 61, 15⟩))) (.e true (.q (.int (0) 0 ⟨61, 17, 61, 18⟩)) (.e true (.bin .Sub (.p (.fld (.var 0 ⟨61, 20, 61, 23⟩) 0 ⟨61, 20, 61, 30⟩)) (.e (.q (.int (1) 0 ⟨61, 33, 61, 34⟩))) ⟨61, 20, 61, 34⟩) .nil))) ⟨61, 4, 61, 9⟩ ⟨61, 4, 61, 35⟩) ⟨61, 4, 61, 35⟩)
 (.cons (.set 2 true (.call 15 (.e true (.call 16 (.e true (.q (.rd (.var 0 ⟨62, 31, 62, 34⟩))) .nil) ⟨62, 20, 62, 30⟩ ⟨62, 20, 62, 35⟩) (.e true (.q (.rd (.var 1 ⟨62, 37, 62, 42⟩))) .nil)) ⟨62, 10, 62, 19⟩ ⟨62, 10, 62, 43⟩) ⟨62, 4, 62, 7⟩ ⟨62, 4, 62, 43⟩)
 (.cons (.ret (.f1 .tuple (.e n17_l0) ⟨63, 11, 63, 16⟩ ⟨63, 11, 63, 58⟩) ⟨63, 4, 63, 58⟩)
 .nil)))⟩
/-- back_lists -/
def d18 : He.DefD := ⟨("back_lists", none), "back_lists", "back_lists", defArgs (top 14), defBody (top 14), defScope (top 14), [], []⟩
def n18_e0 : E := (.lst .nil ⟨42, 12, 42, 14⟩)
def n18_t0 : Ts := .nil
def n18_l0 : E := (.lc n18_e0 (.one 6 ⟨42, 19, 42, 20⟩) (.r1 (.q (.rd (.fld (.var 0 ⟨42, 30, 42, 33⟩) 0 ⟨42, 30, 42, 40⟩))) ⟨42, 24, 42, 29⟩ ⟨42, 24, 42, 41⟩) n18_t0 ⟨.function, [(".0", .local), ("_", .local)], false, false, []⟩ [("_", 6)] ⟨42, 11, 42, 42⟩)
def n18_b0 : Ss := (.cons (.appQ (.ix (.var 1 ⟨44, 8, 44, 12⟩) (.rd (.var 3 ⟨44, 13, 44, 17⟩)) ⟨44, 8, 44, 18⟩) (.rd (.var 2 ⟨44, 26, 44, 30⟩)) ⟨44, 8, 44, 25⟩ ⟨44, 8, 44, 31⟩ ⟨44, 8, 44, 31⟩)
 .nil)
def n18_f0 : S := (.forS (.tup [(2, ⟨43, 8, 43, 12⟩), (3, ⟨43, 14, 43, 18⟩)] 0 ⟨43, 8, 43, 18⟩) (.e (.q (.rd (.fld (.var 0 ⟨43, 22, 43, 25⟩) 1 ⟨43, 22, 43, 32⟩)))) n18_b0 ⟨43, 4, 44, 31⟩)
def n18_b1 : Ss := (.cons (.appQ (.ix (.var 1 ⟨46, 8, 46, 12⟩) (.rd (.var 4 ⟨46, 13, 46, 14⟩)) ⟨46, 8, 46, 15⟩) (.rd (.var 5 ⟨46, 23, 46, 24⟩)) ⟨46, 8, 46, 22⟩ ⟨46, 8, 46, 25⟩ ⟨46, 8, 46, 25⟩)
 (.cons (.appQ (.ix (.var 1 ⟨47, 8, 47, 12⟩) (.rd (.var 5 ⟨47, 13, 47, 14⟩)) ⟨47, 8, 47, 15⟩) (.rd (.var 4 ⟨47, 23, 47, 24⟩)) ⟨47, 8, 47, 22⟩ ⟨47, 8, 47, 25⟩ ⟨47, 8, 47, 25⟩)
 .nil))
def n18_f1 : S := (.forS (.tup [(4, ⟨45, 8, 45, 9⟩), (5, ⟨45, 11, 45, 12⟩)] 0 ⟨45, 8, 45, 12⟩) (.e (.q (.rd (.fld (.var 0 ⟨45, 16, 45, 19⟩) 2 ⟨45, 16, 45, 24⟩)))) n18_b1 ⟨45, 4, 47, 25⟩)
def n18 : Dn := ⟨["web", "back", "tail", "head", "a", "b", "_"], [true],
 (.cons (.set 1 false n18_l0 ⟨42, 4, 42, 8⟩ ⟨42, 4, 42, 42⟩)
 (.cons n18_f0
 (.cons n18_f1
 (.cons (.ret (.mv 1 ⟨48, 11, 48, 15⟩) ⟨48, 4, 48, 15⟩)
 .nil))))⟩
/-- knots -/
def d19 : He.DefD := ⟨("knots", none), "knots", "knots", defArgs (top 17), defBody (top 17), defScope (top 17), [], []⟩
def n19_e0 : E := (.q (.bl false 0 ⟨67, 13, 67, 18⟩))
def n19_t0 : Ts := .nil
def n19_l0 : E := (.lc n19_e0 (.one 10 ⟨67, 23, 67, 24⟩) (.r1 (.q (.rd (.fld (.var 0 ⟨67, 34, 67, 37⟩) 0 ⟨67, 34, 67, 44⟩))) ⟨67, 28, 67, 33⟩ ⟨67, 28, 67, 45⟩) n19_t0 ⟨.function, [(".0", .local), ("_", .local)], false, false, []⟩ [("_", 10)] ⟨67, 12, 67, 46⟩)
def n19_e1 : E := (.q (.rd (.var 8 ⟨73, 26, 73, 27⟩)))
def n19_t1 : Ts := (.cons (.and (.cons (.v (.p (.ix (.var 6 ⟨73, 58, 73, 60⟩) (.rd (.var 8 ⟨73, 61, 73, 62⟩)) ⟨73, 58, 73, 63⟩))) (.cons (.v (.p (.ix (.var 7 ⟨73, 68, 73, 71⟩) (.rd (.var 8 ⟨73, 72, 73, 73⟩)) ⟨73, 68, 73, 74⟩))) .nil)) ⟨73, 58, 73, 74⟩) .nil)
def n19_l1 : E := (.lc n19_e1 (.one 8 ⟨73, 32, 73, 33⟩) (.r1 (.q (.rd (.fld (.var 0 ⟨73, 43, 73, 46⟩) 0 ⟨73, 43, 73, 53⟩))) ⟨73, 37, 73, 42⟩ ⟨73, 37, 73, 54⟩) n19_t1 ⟨.function, [(".0", .local), ("x", .local), ("fro", .free), ("to", .free)], false, false, []⟩ [("x", 8)] ⟨73, 25, 73, 75⟩)
def n19_b0 : Ss := (.cons (.setIx (.var 3 ⟨75, 16, 75, 21⟩) (.rd (.var 8 ⟨75, 22, 75, 23⟩)) (.q (.bl true 0 ⟨75, 27, 75, 31⟩)) ⟨75, 16, 75, 24⟩ ⟨75, 16, 75, 31⟩)
 .nil)
def n19_f0 : S := (.forS (.one 8 ⟨74, 16, 74, 17⟩) (.e (.q (.rd (.var 9 ⟨74, 21, 74, 25⟩)))) n19_b0 ⟨74, 12, 75, 31⟩)
def n19_b1 : Ss := (.cons (.ite (.not (.v (.p (.ix (.var 3 ⟨70, 15, 70, 20⟩) (.rd (.var 5 ⟨70, 21, 70, 26⟩)) ⟨70, 15, 70, 27⟩))) ⟨70, 11, 70, 27⟩) (.cons (.set 6 true (.call 15 (.e true (.q (.rd (.var 1 ⟨71, 27, 71, 32⟩))) (.e true (.q (.rd (.var 5 ⟨71, 34, 71, 39⟩))) .nil)) ⟨71, 17, 71, 26⟩ ⟨71, 17, 71, 40⟩) ⟨71, 12, 71, 14⟩ ⟨71, 12, 71, 40⟩)
 (.cons (.set 7 true (.call 15 (.e true (.q (.rd (.var 2 ⟨72, 28, 72, 32⟩))) (.e true (.q (.rd (.var 5 ⟨72, 34, 72, 39⟩))) .nil)) ⟨72, 18, 72, 27⟩ ⟨72, 18, 72, 40⟩) ⟨72, 12, 72, 15⟩ ⟨72, 12, 72, 40⟩)
 (.cons (.set 9 true (.f1 .tuple (.e n19_l1) ⟨73, 19, 73, 24⟩ ⟨73, 19, 73, 76⟩) ⟨73, 12, 73, 16⟩ ⟨73, 12, 73, 76⟩)
 (.cons n19_f0
 (.cons (.appQ (.var 4 ⟨76, 12, 76, 16⟩) (.rd (.var 9 ⟨76, 24, 76, 28⟩)) ⟨76, 12, 76, 23⟩ ⟨76, 12, 76, 29⟩ ⟨76, 12, 76, 29⟩)
 .nil))))) .nil ⟨70, 8, 76, 29⟩)
 .nil)
def n19_f1 : S := (.forS (.one 5 ⟨69, 8, 69, 13⟩) (.r1 (.q (.rd (.fld (.var 0 ⟨69, 23, 69, 26⟩) 0 ⟨69, 23, 69, 33⟩))) ⟨69, 17, 69, 22⟩ ⟨69, 17, 69, 34⟩) n19_b1 ⟨69, 4, 76, 29⟩)
def n19 : Dn := ⟨["web", "ahead", "back", "given", "told", "place", "to", "fro", "x", "knot", "_"], [true],
 (.cons (.set 1 true (.call 16 (.e true (.q (.rd (.var 0 ⟨65, 23, 65, 26⟩))) .nil) ⟨65, 12, 65, 22⟩ ⟨65, 12, 65, 27⟩) ⟨65, 4, 65, 9⟩ ⟨65, 4, 65, 27⟩)
 (.cons (.set 2 true (.call 18 (.e true (.q (.rd (.var 0 ⟨66, 22, 66, 25⟩))) .nil) ⟨66, 11, 66, 21⟩ ⟨66, 11, 66, 26⟩) ⟨66, 4, 66, 8⟩ ⟨66, 4, 66, 26⟩)
 (.cons (.set 3 false n19_l0 ⟨67, 4, 67, 9⟩ ⟨67, 4, 67, 46⟩)
 (.cons (.set 4 false (.lst .nil ⟨68, 11, 68, 13⟩) ⟨68, 4, 68, 8⟩ ⟨68, 4, 68, 13⟩)
 (.cons n19_f1
 (.cons (.ret (.f1 .tuple (.p (.var 4 ⟨77, 17, 77, 21⟩)) ⟨77, 11, 77, 16⟩ ⟨77, 11, 77, 22⟩) ⟨77, 4, 77, 22⟩)
 .nil))))))⟩
/-- knot_of -/
def d20 : He.DefD := ⟨("knot_of", none), "knot_of", "knot_of", defArgs (top 18), defBody (top 18), defScope (top 18), [], []⟩
def n20_e0 : E := (.q (.int (0) 0 ⟨79, 14, 79, 15⟩))
def n20_t0 : Ts := .nil
def n20_l0 : E := (.lc n20_e0 (.one 5 ⟨79, 20, 79, 21⟩) (.r1 (.q (.rd (.fld (.var 0 ⟨79, 31, 79, 34⟩) 0 ⟨79, 31, 79, 41⟩))) ⟨79, 25, 79, 30⟩ ⟨79, 25, 79, 42⟩) n20_t0 ⟨.function, [(".0", .local), ("_", .local)], false, false, []⟩ [("_", 5)] ⟨79, 13, 79, 43⟩)
def n20_b0 : Ss := (.cons (.setIx (.var 1 ⟨82, 12, 82, 18⟩) (.rd (.var 4 ⟨82, 19, 82, 24⟩)) (.q (.rd (.var 2 ⟨82, 28, 82, 29⟩))) ⟨82, 12, 82, 25⟩ ⟨82, 12, 82, 29⟩)
 .nil)
def n20_f0 : S := (.forS (.one 4 ⟨81, 12, 81, 17⟩) (.e (.q (.rd (.var 3 ⟨81, 21, 81, 25⟩)))) n20_b0 ⟨81, 8, 82, 29⟩)
def n20_b1 : Ss := (.cons n20_f0
 .nil)
def n20_f1 : S := (.forS (.tup [(2, ⟨80, 8, 80, 9⟩), (3, ⟨80, 11, 80, 15⟩)] 0 ⟨80, 8, 80, 15⟩) (.enum (.call 19 (.e true (.q (.rd (.var 0 ⟨80, 35, 80, 38⟩))) .nil) ⟨80, 29, 80, 34⟩ ⟨80, 29, 80, 39⟩) ⟨80, 19, 80, 28⟩ ⟨80, 19, 80, 40⟩) n20_b1 ⟨80, 4, 82, 29⟩)
def n20 : Dn := ⟨["web", "number", "k", "knot", "place", "_"], [true],
 (.cons (.set 1 false n20_l0 ⟨79, 4, 79, 10⟩ ⟨79, 4, 79, 43⟩)
 (.cons n20_f1
 (.cons (.ret (.f1 .tuple (.p (.var 1 ⟨83, 17, 83, 23⟩)) ⟨83, 11, 83, 16⟩ ⟨83, 11, 83, 24⟩) ⟨83, 4, 83, 24⟩)
 .nil)))⟩
/-- _law_refused -/
def d21 : He.DefD := ⟨("_law_refused", none), "_law_refused", "_law_refused", defArgs (top 38), defBody (top 38), defScope (top 38), [], []⟩
def n21 : Dn := ⟨["web", "place", "kinds", "e"], [true, true],
 (.cons (.set 2 false (.lst .nil ⟨240, 12, 240, 14⟩) ⟨240, 4, 240, 9⟩ ⟨240, 4, 240, 14⟩)
 (.cons (.tryA (.cons (.expr (.call 17 (.e true (.q (.rd (.var 0 ⟨242, 16, 242, 19⟩))) (.e true (.q (.rd (.var 1 ⟨242, 21, 242, 26⟩))) .nil)) ⟨242, 8, 242, 15⟩ ⟨242, 8, 242, 27⟩) ⟨242, 8, 242, 27⟩)
 .nil) 0 3 (.lst 2 [(.bl true 0 ⟨244, 17, 244, 21⟩), (.isE 1 ⟨244, 23, 244, 33⟩ ⟨244, 34, 244, 35⟩ ⟨244, 37, 244, 46⟩ ⟨244, 23, 244, 47⟩), (.isE 2 ⟨244, 49, 244, 59⟩ ⟨244, 60, 244, 61⟩ ⟨244, 63, 244, 69⟩ ⟨244, 49, 244, 70⟩), (.isE 3 ⟨244, 72, 244, 82⟩ ⟨244, 83, 244, 84⟩ ⟨244, 86, 244, 92⟩ ⟨244, 72, 244, 93⟩)] ⟨244, 16, 244, 94⟩ ⟨244, 8, 244, 13⟩ ⟨244, 8, 244, 94⟩) [] ⟨243, 11, 243, 21⟩ ⟨243, 4, 244, 94⟩ ⟨241, 4, 244, 94⟩)
 (.cons (.ret (.mv 2 ⟨245, 11, 245, 16⟩) ⟨245, 4, 245, 16⟩)
 .nil)))⟩
/-- _law_asks -/
def d22 : He.DefD := ⟨("_law_asks", none), "_law_asks", "_law_asks", defArgs (top 39), defBody (top 39), defScope (top 39), [], []⟩
def n22_e0 : E := (.q (.non 0 ⟨249, 14, 249, 18⟩))
def n22_t0 : Ts := .nil
def n22_l0 : E := (.lc n22_e0 (.one 4 ⟨249, 23, 249, 28⟩) (.r1 (.q (.rd (.ix (.var 1 ⟨249, 38, 249, 41⟩) (.int (0) 0 ⟨249, 42, 249, 43⟩) ⟨249, 38, 249, 44⟩))) ⟨249, 32, 249, 37⟩ ⟨249, 32, 249, 45⟩) n22_t0 ⟨.function, [(".0", .local), ("place", .local)], false, false, []⟩ [("place", 4)] ⟨249, 13, 249, 46⟩)
def n22_e1 : E := (.q (.rd (.var 6 ⟨251, 49, 251, 50⟩)))
def n22_t1 : Ts := (.cons (.v (.p (.ix (.ix (.var 2 ⟨251, 77, 251, 79⟩) (.rd (.var 4 ⟨251, 80, 251, 85⟩)) ⟨251, 77, 251, 86⟩) (.rd (.var 6 ⟨251, 87, 251, 88⟩)) ⟨251, 77, 251, 89⟩))) .nil)
def n22_l1 : E := (.lc n22_e1 (.one 6 ⟨251, 55, 251, 56⟩) (.r1 (.q (.rd (.ix (.var 1 ⟨251, 66, 251, 69⟩) (.int (0) 0 ⟨251, 70, 251, 71⟩) ⟨251, 66, 251, 72⟩))) ⟨251, 60, 251, 65⟩ ⟨251, 60, 251, 73⟩) n22_t1 ⟨.function, [(".0", .local), ("q", .local), ("place", .free), ("to", .free)], false, false, []⟩ [("q", 6)] ⟨251, 48, 251, 90⟩)
def n22_e2 : E := (.q (.rd (.var 6 ⟨254, 20, 254, 21⟩)))
def n22_t2 : Ts := (.cons (.and (.cons (.v (.p (.ix (.ix (.var 2 ⟨254, 48, 254, 50⟩) (.rd (.var 4 ⟨254, 51, 254, 56⟩)) ⟨254, 48, 254, 57⟩) (.rd (.var 6 ⟨254, 58, 254, 59⟩)) ⟨254, 48, 254, 60⟩))) (.cons (.v (.p (.ix (.ix (.var 2 ⟨254, 65, 254, 67⟩) (.rd (.var 6 ⟨254, 68, 254, 69⟩)) ⟨254, 65, 254, 70⟩) (.rd (.var 4 ⟨254, 71, 254, 76⟩)) ⟨254, 65, 254, 77⟩))) .nil)) ⟨254, 48, 254, 77⟩) .nil)
def n22_l2 : E := (.lc n22_e2 (.one 6 ⟨254, 26, 254, 27⟩) (.r1 (.q (.rd (.ix (.var 1 ⟨254, 37, 254, 40⟩) (.int (0) 0 ⟨254, 41, 254, 42⟩) ⟨254, 37, 254, 43⟩))) ⟨254, 31, 254, 36⟩ ⟨254, 31, 254, 44⟩) n22_t2 ⟨.function, [(".0", .local), ("q", .local), ("place", .free), ("to", .free)], false, false, []⟩ [("q", 6)] ⟨254, 19, 254, 78⟩)
def n22_b0 : Ss := (.cons (.setIx (.var 5 ⟨256, 16, 256, 22⟩) (.rd (.var 6 ⟨256, 23, 256, 24⟩)) (.q (.len (.var 3 ⟨256, 32, 256, 35⟩) ⟨256, 28, 256, 31⟩ ⟨256, 28, 256, 36⟩)) ⟨256, 16, 256, 25⟩ ⟨256, 16, 256, 36⟩)
 .nil)
def n22_f0 : S := (.forS (.one 6 ⟨255, 16, 255, 17⟩) (.e (.q (.rd (.var 7 ⟨255, 21, 255, 25⟩)))) n22_b0 ⟨255, 12, 256, 36⟩)
def n22_b1 : Ss := (.cons (.ite (.not (.v (.e (.call 14 (.e true (.call 17 (.e true (.q (.rd (.var 0 ⟨251, 33, 251, 38⟩))) (.e true (.q (.rd (.var 4 ⟨251, 40, 251, 45⟩))) .nil)) ⟨251, 25, 251, 32⟩ ⟨251, 25, 251, 46⟩) (.e true n22_l1 .nil)) ⟨251, 15, 251, 24⟩ ⟨251, 15, 251, 91⟩))) ⟨251, 11, 251, 91⟩) (.cons (.ret (.q (.bl false 0 ⟨252, 19, 252, 24⟩)) ⟨252, 12, 252, 24⟩)
 .nil) .nil ⟨251, 8, 252, 24⟩)
 (.cons (.ite (.cmp .Is (.p (.ix (.var 5 ⟨253, 11, 253, 17⟩) (.rd (.var 4 ⟨253, 18, 253, 23⟩)) ⟨253, 11, 253, 24⟩)) (.e (.q (.non 0 ⟨253, 28, 253, 32⟩))) ⟨253, 11, 253, 32⟩) (.cons (.set 7 true n22_l2 ⟨254, 12, 254, 16⟩ ⟨254, 12, 254, 78⟩)
 (.cons n22_f0
 (.cons (.appQ (.var 3 ⟨257, 12, 257, 15⟩) (.rd (.var 7 ⟨257, 23, 257, 27⟩)) ⟨257, 12, 257, 22⟩ ⟨257, 12, 257, 28⟩ ⟨257, 12, 257, 28⟩)
 .nil))) .nil ⟨253, 8, 257, 28⟩)
 .nil))
def n22_f1 : S := (.forS (.one 4 ⟨250, 8, 250, 13⟩) (.r1 (.q (.rd (.ix (.var 1 ⟨250, 23, 250, 26⟩) (.int (0) 0 ⟨250, 27, 250, 28⟩) ⟨250, 23, 250, 29⟩))) ⟨250, 17, 250, 22⟩ ⟨250, 17, 250, 30⟩) n22_b1 ⟨250, 4, 257, 28⟩)
def n22_b2 : Ss := (.cons (.ite (.not (.v (.e (.call 14 (.e true (.q (.rd (.ix (.var 8 ⟨262, 25, 262, 29⟩) (.rd (.var 9 ⟨262, 30, 262, 31⟩)) ⟨262, 25, 262, 32⟩))) (.e true (.q (.rd (.ix (.var 3 ⟨262, 34, 262, 37⟩) (.rd (.var 9 ⟨262, 38, 262, 39⟩)) ⟨262, 34, 262, 40⟩))) .nil)) ⟨262, 15, 262, 24⟩ ⟨262, 15, 262, 41⟩))) ⟨262, 11, 262, 41⟩) (.cons (.ret (.q (.bl false 0 ⟨263, 19, 263, 24⟩)) ⟨263, 12, 263, 24⟩)
 .nil) .nil ⟨262, 8, 263, 24⟩)
 .nil)
def n22_f2 : S := (.forS (.one 9 ⟨261, 8, 261, 9⟩) (.r1 (.q (.len (.var 3 ⟨261, 23, 261, 26⟩) ⟨261, 19, 261, 22⟩ ⟨261, 19, 261, 27⟩)) ⟨261, 13, 261, 18⟩ ⟨261, 13, 261, 28⟩) n22_b2 ⟨261, 4, 263, 24⟩)
def n22_b3 : Ss := (.cons (.ite (.cmp .NotEq (.e (.call 21 (.e true (.q (.rd (.var 0 ⟨267, 24, 267, 29⟩))) (.e true (.q (.rd (.var 10 ⟨267, 31, 267, 34⟩))) .nil)) ⟨267, 11, 267, 23⟩ ⟨267, 11, 267, 35⟩)) (.e (.lst (.cons (.q (.bl true 0 ⟨267, 40, 267, 44⟩)) (.cons (.q (.bl true 0 ⟨267, 46, 267, 50⟩)) (.cons (.q (.bl false 0 ⟨267, 52, 267, 57⟩)) (.cons (.q (.bl false 0 ⟨267, 59, 267, 64⟩)) .nil)))) ⟨267, 39, 267, 65⟩)) ⟨267, 11, 267, 65⟩) (.cons (.ret (.q (.bl false 0 ⟨268, 19, 268, 24⟩)) ⟨268, 12, 268, 24⟩)
 .nil) .nil ⟨267, 8, 268, 24⟩)
 .nil)
def n22_f3 : S := (.forS (.one 10 ⟨266, 8, 266, 11⟩) (.e (.lst (.cons (.q (.neg (.int (1) 0 ⟨266, 17, 266, 18⟩) ⟨266, 16, 266, 18⟩)) (.cons (.q (.rd (.ix (.var 1 ⟨266, 20, 266, 23⟩) (.int (0) 0 ⟨266, 24, 266, 25⟩) ⟨266, 20, 266, 26⟩))) (.cons (.q (.bl true 0 ⟨266, 28, 266, 32⟩)) (.cons (.q (.str "0" 0 ⟨266, 34, 266, 37⟩)) (.cons (.q (.non 0 ⟨266, 39, 266, 43⟩)) .nil))))) ⟨266, 15, 266, 44⟩)) n22_b3 ⟨266, 4, 268, 24⟩)
def n22 : Dn := ⟨["given", "web", "to", "due", "place", "number", "q", "knot", "told", "k", "bad"], [true, true],
 (.cons (.set 2 true (.call 11 (.e true (.q (.rd (.var 1 ⟨247, 22, 247, 25⟩))) .nil) ⟨247, 9, 247, 21⟩ ⟨247, 9, 247, 26⟩) ⟨247, 4, 247, 6⟩ ⟨247, 4, 247, 26⟩)
 (.cons (.set 3 false (.lst .nil ⟨248, 10, 248, 12⟩) ⟨248, 4, 248, 7⟩ ⟨248, 4, 248, 12⟩)
 (.cons (.set 5 false n22_l0 ⟨249, 4, 249, 10⟩ ⟨249, 4, 249, 46⟩)
 (.cons n22_f1
 (.cons (.set 8 true (.call 19 (.e true (.q (.rd (.var 0 ⟨258, 17, 258, 22⟩))) .nil) ⟨258, 11, 258, 16⟩ ⟨258, 11, 258, 23⟩) ⟨258, 4, 258, 8⟩ ⟨258, 4, 258, 23⟩)
 (.cons (.ite (.or (.cons (.not (.v (.e (.isi (.rd (.var 8 ⟨259, 22, 259, 26⟩)) "tuple" ⟨259, 11, 259, 21⟩ ⟨259, 28, 259, 33⟩ ⟨259, 11, 259, 34⟩))) ⟨259, 7, 259, 34⟩) (.cons (.cmp .NotEq (.e (.q (.len (.var 8 ⟨259, 42, 259, 46⟩) ⟨259, 38, 259, 41⟩ ⟨259, 38, 259, 47⟩))) (.e (.q (.len (.var 3 ⟨259, 55, 259, 58⟩) ⟨259, 51, 259, 54⟩ ⟨259, 51, 259, 59⟩))) ⟨259, 38, 259, 59⟩) .nil)) ⟨259, 7, 259, 59⟩) (.cons (.ret (.q (.bl false 0 ⟨260, 15, 260, 20⟩)) ⟨260, 8, 260, 20⟩)
 .nil) .nil ⟨259, 4, 260, 20⟩)
 (.cons n22_f2
 (.cons (.ite (.not (.v (.e (.call 14 (.e true (.call 20 (.e true (.q (.rd (.var 0 ⟨264, 29, 264, 34⟩))) .nil) ⟨264, 21, 264, 28⟩ ⟨264, 21, 264, 35⟩) (.e true (.fz 5 ⟨264, 37, 264, 43⟩) .nil)) ⟨264, 11, 264, 20⟩ ⟨264, 11, 264, 44⟩))) ⟨264, 7, 264, 44⟩) (.cons (.ret (.q (.bl false 0 ⟨265, 15, 265, 20⟩)) ⟨265, 8, 265, 20⟩)
 .nil) .nil ⟨264, 4, 265, 20⟩)
 (.cons n22_f3
 (.cons (.ret (.q (.bl true 0 ⟨269, 11, 269, 15⟩)) ⟨269, 4, 269, 15⟩)
 .nil))))))))))⟩
/-- Web.with_panel -/
def d23 : He.DefD := ⟨("Web", some "with_panel"), "with_panel", "Web.with_panel", defArgs (met 27 3), defBody (met 27 3), defScope (met 27 3), [], []⟩
def n23 : Dn := ⟨["self", "tail", "head"], [true, true, true],
 (.cons (.ret (.make 0 (.e true (.q (.rd (.fld (.var 0 ⟨137, 19, 137, 23⟩) 0 ⟨137, 19, 137, 30⟩))) (.e true (.bin .Add (.e (.f1 .list (.p (.fld (.var 0 ⟨137, 37, 137, 41⟩) 1 ⟨137, 37, 137, 48⟩)) ⟨137, 32, 137, 36⟩ ⟨137, 32, 137, 49⟩)) (.e (.lst (.cons (.tup (.cons (.q (.rd (.var 1 ⟨137, 54, 137, 58⟩))) (.cons (.q (.rd (.var 2 ⟨137, 60, 137, 64⟩))) .nil)) 0 ⟨137, 53, 137, 65⟩) .nil) ⟨137, 52, 137, 66⟩)) ⟨137, 32, 137, 66⟩) (.e true (.q (.rd (.fld (.var 0 ⟨137, 68, 137, 72⟩) 2 ⟨137, 68, 137, 77⟩))) .nil))) (.e true (.q (.rd (.fld (.var 0 ⟨137, 84, 137, 88⟩) 3 ⟨137, 84, 137, 93⟩))) (.e true (.q (.rd (.fld (.var 0 ⟨137, 99, 137, 103⟩) 4 ⟨137, 99, 137, 107⟩))) .nil)) [(3, ⟨137, 79, 137, 93⟩), (4, ⟨137, 95, 137, 107⟩)] ⟨137, 15, 137, 18⟩ ⟨137, 15, 137, 108⟩) ⟨137, 8, 137, 108⟩)
 .nil)⟩
/-- Web.with_tie -/
def d24 : He.DefD := ⟨("Web", some "with_tie"), "with_tie", "Web.with_tie", defArgs (met 27 4), defBody (met 27 4), defScope (met 27 4), [], []⟩
def n24 : Dn := ⟨["self", "a", "b"], [true, true, true],
 (.cons (.ret (.make 0 (.e true (.q (.rd (.fld (.var 0 ⟨140, 19, 140, 23⟩) 0 ⟨140, 19, 140, 30⟩))) (.e true (.q (.rd (.fld (.var 0 ⟨140, 32, 140, 36⟩) 1 ⟨140, 32, 140, 43⟩))) (.e true (.bin .Add (.e (.f1 .list (.p (.fld (.var 0 ⟨140, 50, 140, 54⟩) 2 ⟨140, 50, 140, 59⟩)) ⟨140, 45, 140, 49⟩ ⟨140, 45, 140, 60⟩)) (.e (.lst (.cons (.tup (.cons (.q (.rd (.var 1 ⟨140, 65, 140, 66⟩))) (.cons (.q (.rd (.var 2 ⟨140, 68, 140, 69⟩))) .nil)) 0 ⟨140, 64, 140, 70⟩) .nil) ⟨140, 63, 140, 71⟩)) ⟨140, 45, 140, 71⟩) .nil))) (.e true (.q (.rd (.fld (.var 0 ⟨140, 78, 140, 82⟩) 3 ⟨140, 78, 140, 87⟩))) (.e true (.q (.rd (.fld (.var 0 ⟨140, 93, 140, 97⟩) 4 ⟨140, 93, 140, 101⟩))) .nil)) [(3, ⟨140, 73, 140, 87⟩), (4, ⟨140, 89, 140, 101⟩)] ⟨140, 15, 140, 18⟩ ⟨140, 15, 140, 102⟩) ⟨140, 8, 140, 102⟩)
 .nil)⟩
/-- _law_grown -/
def d25 : He.DefD := ⟨("_law_grown", none), "_law_grown", "_law_grown", defArgs (top 40), defBody (top 40), defScope (top 40), [], []⟩
def n25_b0 : Ss := (.cons (.ite (.cmp .NotIn (.p (.var 9 ⟨285, 15, 285, 16⟩)) (.p (.var 8 ⟨285, 24, 285, 29⟩)) ⟨285, 15, 285, 29⟩) (.cons (.ret (.q (.bl false 0 ⟨286, 23, 286, 28⟩)) ⟨286, 16, 286, 28⟩)
 .nil) .nil ⟨285, 12, 286, 28⟩)
 .nil)
def n25_f0 : S := (.forS (.one 9 ⟨284, 12, 284, 13⟩) (.e (.call 17 (.e true (.q (.rd (.var 1 ⟨284, 25, 284, 30⟩))) (.e true (.q (.rd (.var 7 ⟨284, 32, 284, 37⟩))) .nil)) ⟨284, 17, 284, 24⟩ ⟨284, 17, 284, 38⟩)) n25_b0 ⟨284, 8, 286, 28⟩)
def n25_b1 : Ss := (.cons (.set 8 true (.call 17 (.e true (.q (.rd (.var 6 ⟨283, 24, 283, 29⟩))) (.e true (.q (.rd (.var 7 ⟨283, 31, 283, 36⟩))) .nil)) ⟨283, 16, 283, 23⟩ ⟨283, 16, 283, 37⟩) ⟨283, 8, 283, 13⟩ ⟨283, 8, 283, 37⟩)
 (.cons n25_f0
 .nil))
def n25_f1 : S := (.forS (.one 7 ⟨282, 8, 282, 13⟩) (.r1 (.q (.rd (.ix (.var 2 ⟨282, 23, 282, 26⟩) (.int (0) 0 ⟨282, 27, 282, 28⟩) ⟨282, 23, 282, 29⟩))) ⟨282, 17, 282, 22⟩ ⟨282, 17, 282, 30⟩) n25_b1 ⟨282, 4, 286, 28⟩)
def n25 : Dn := ⟨["row", "given", "web", "one", "two", "more", "other", "place", "after", "q"], [true, true, true],
 (.cons (.set 3 true (.call 1 (.mv 0 ⟨271, 20, 271, 23⟩ (.e true (.q (.rd (.ix (.var 2 ⟨271, 25, 271, 28⟩) (.int (0) 0 ⟨271, 29, 271, 30⟩) ⟨271, 25, 271, 31⟩))) .nil)) ⟨271, 10, 271, 19⟩ ⟨271, 10, 271, 32⟩) ⟨271, 4, 271, 7⟩ ⟨271, 4, 271, 32⟩)
 (.cons (.set 4 true (.bin .Mod (.e (.f1 .int (.e (.bin .Add (.e (.q (.bin .Add (.rd (.var 3 ⟨272, 14, 272, 17⟩)) (.int (1) 0 ⟨272, 20, 272, 21⟩) ⟨272, 14, 272, 21⟩))) (.e (.call 1 (.mv 0 ⟨272, 34, 272, 37⟩ (.e true (.q (.rd (.ix (.var 2 ⟨272, 39, 272, 42⟩) (.int (0) 0 ⟨272, 43, 272, 44⟩) ⟨272, 39, 272, 45⟩))) .nil)) ⟨272, 24, 272, 33⟩ ⟨272, 24, 272, 46⟩)) ⟨272, 14, 272, 46⟩)) ⟨272, 10, 272, 13⟩ ⟨272, 10, 272, 47⟩)) (.p (.ix (.var 2 ⟨272, 50, 272, 53⟩) (.int (0) 0 ⟨272, 54, 272, 55⟩) ⟨272, 50, 272, 56⟩)) ⟨272, 10, 272, 56⟩) ⟨272, 4, 272, 7⟩ ⟨272, 4, 272, 56⟩)
 (.cons (.set 5 false (.lst (.cons (.q (.rd (.ix (.var 2 ⟨273, 12, 273, 15⟩) (.int (0) 0 ⟨273, 16, 273, 17⟩) ⟨273, 12, 273, 18⟩))) (.cons (.f1 .list (.p (.ix (.var 2 ⟨273, 25, 273, 28⟩) (.int (1) 0 ⟨273, 29, 273, 30⟩) ⟨273, 25, 273, 31⟩)) ⟨273, 20, 273, 24⟩ ⟨273, 20, 273, 32⟩) (.cons (.f1 .list (.p (.ix (.var 2 ⟨273, 39, 273, 42⟩) (.int (2) 0 ⟨273, 43, 273, 44⟩) ⟨273, 39, 273, 45⟩)) ⟨273, 34, 273, 38⟩ ⟨273, 34, 273, 46⟩) (.cons (.q (.rd (.ix (.var 2 ⟨273, 48, 273, 51⟩) (.int (3) 0 ⟨273, 52, 273, 53⟩) ⟨273, 48, 273, 54⟩))) (.cons (.q (.rd (.ix (.var 2 ⟨273, 56, 273, 59⟩) (.int (4) 0 ⟨273, 60, 273, 61⟩) ⟨273, 56, 273, 62⟩))) .nil))))) ⟨273, 11, 273, 63⟩) ⟨273, 4, 273, 8⟩ ⟨273, 4, 273, 63⟩)
 (.cons (.ite (.cmp .Eq (.e (.call 1 (.mv 0 ⟨274, 17, 274, 20⟩ (.e true (.q (.int (2) 0 ⟨274, 22, 274, 23⟩)) .nil)) ⟨274, 7, 274, 16⟩ ⟨274, 7, 274, 24⟩)) (.e (.q (.int (0) 0 ⟨274, 28, 274, 29⟩))) ⟨274, 7, 274, 29⟩) (.cons (.set 6 true (.methE (.q (.rd (.var 1 ⟨275, 16, 275, 21⟩))) 5 6 23 (.e true (.q (.rd (.var 3 ⟨275, 33, 275, 36⟩))) (.e true (.q (.rd (.var 4 ⟨275, 38, 275, 41⟩))) .nil)) ⟨275, 16, 275, 32⟩ ⟨275, 16, 275, 42⟩) ⟨275, 8, 275, 13⟩ ⟨275, 8, 275, 42⟩)
 (.cons (.appT (.ix (.var 5 ⟨276, 8, 276, 12⟩) (.int (1) 0 ⟨276, 13, 276, 14⟩) ⟨276, 8, 276, 15⟩) (.rd (.var 3 ⟨276, 24, 276, 27⟩)) (.rd (.var 4 ⟨276, 29, 276, 32⟩)) 0 ⟨276, 23, 276, 33⟩ ⟨276, 8, 276, 22⟩ ⟨276, 8, 276, 34⟩ ⟨276, 8, 276, 34⟩)
 .nil)) (.cons (.set 6 true (.methE (.q (.rd (.var 1 ⟨278, 16, 278, 21⟩))) 6 6 24 (.e true (.q (.rd (.var 3 ⟨278, 31, 278, 34⟩))) (.e true (.q (.rd (.var 4 ⟨278, 36, 278, 39⟩))) .nil)) ⟨278, 16, 278, 30⟩ ⟨278, 16, 278, 40⟩) ⟨278, 8, 278, 13⟩ ⟨278, 8, 278, 40⟩)
 (.cons (.appT (.ix (.var 5 ⟨279, 8, 279, 12⟩) (.int (2) 0 ⟨279, 13, 279, 14⟩) ⟨279, 8, 279, 15⟩) (.rd (.var 3 ⟨279, 24, 279, 27⟩)) (.rd (.var 4 ⟨279, 29, 279, 32⟩)) 0 ⟨279, 23, 279, 33⟩ ⟨279, 8, 279, 22⟩ ⟨279, 8, 279, 34⟩ ⟨279, 8, 279, 34⟩)
 .nil)) ⟨274, 4, 279, 34⟩)
 (.cons (.ite (.not (.v (.e (.call 22 (.e true (.q (.rd (.var 6 ⟨280, 21, 280, 26⟩))) (.e true (.fz 5 ⟨280, 28, 280, 32⟩) .nil)) ⟨280, 11, 280, 20⟩ ⟨280, 11, 280, 33⟩))) ⟨280, 7, 280, 33⟩) (.cons (.ret (.q (.bl false 0 ⟨281, 15, 281, 20⟩)) ⟨281, 8, 281, 20⟩)
 .nil) .nil ⟨280, 4, 281, 20⟩)
 (.cons n25_f1
 (.cons (.ret (.q (.bl true 0 ⟨287, 11, 287, 15⟩)) ⟨287, 4, 287, 15⟩)
 .nil)))))))⟩
/-- law -/
def d26 : He.DefD := ⟨("law", none), "law", "law", defArgs (top 41), defBody (top 41), defScope (top 41), [], []⟩
def n26_e0 : E := (.tup (.cons (.q (.rd (.var 6 ⟨297, 13, 297, 14⟩))) (.cons (.bin .Add (.p (.var 6 ⟨297, 16, 297, 17⟩)) (.e (.q (.int (1) 0 ⟨297, 20, 297, 21⟩))) ⟨297, 16, 297, 21⟩) .nil)) 0 ⟨297, 12, 297, 22⟩)
def n26_t0 : Ts := .nil
def n26_l0 : E := (.lc n26_e0 (.one 6 ⟨297, 27, 297, 28⟩) (.r1 (.q (.int (39) 0 ⟨297, 38, 297, 40⟩)) ⟨297, 32, 297, 37⟩ ⟨297, 32, 297, 41⟩) n26_t0 ⟨.function, [(".0", .local), ("k", .local)], false, false, []⟩ [("k", 6)] ⟨297, 11, 297, 42⟩)
def n26 : Dn := ⟨["script", "row", "web", "given", "ring", "wide", "k"], [true],
 (.cons (.set 1 false (.call 0 (.e true (.q (.rd (.var 0 ⟨289, 21, 289, 27⟩))) .nil) ⟨289, 10, 289, 20⟩ ⟨289, 10, 289, 28⟩) ⟨289, 4, 289, 7⟩ ⟨289, 4, 289, 28⟩)
 (.cons (.set 2 true (.call 2 (.mv 1 ⟨290, 19, 290, 22⟩ .nil) ⟨290, 10, 290, 18⟩ ⟨290, 10, 290, 23⟩) ⟨290, 4, 290, 7⟩ ⟨290, 4, 290, 23⟩)
 (.cons (.set 3 true (.call 9 (.e true (.q (.rd (.var 2 ⟨291, 23, 291, 26⟩))) .nil) ⟨291, 12, 291, 22⟩ ⟨291, 12, 291, 27⟩) ⟨291, 4, 291, 9⟩ ⟨291, 4, 291, 27⟩)
 (.cons (.set 4 true (.call 9 (.e true (.lst (.cons (.q (.int (5) 0 ⟨292, 23, 292, 24⟩)) (.cons (.lst (.cons (.tup (.cons (.q (.int (0) 0 ⟨292, 28, 292, 29⟩)) (.cons (.q (.int (2) 0 ⟨292, 31, 292, 32⟩)) .nil)) 0 ⟨292, 27, 292, 33⟩) (.cons (.tup (.cons (.q (.int (2) 0 ⟨292, 36, 292, 37⟩)) (.cons (.q (.int (3) 0 ⟨292, 39, 292, 40⟩)) .nil)) 0 ⟨292, 35, 292, 41⟩) (.cons (.tup (.cons (.q (.int (3) 0 ⟨292, 44, 292, 45⟩)) (.cons (.q (.int (2) 0 ⟨292, 47, 292, 48⟩)) .nil)) 0 ⟨292, 43, 292, 49⟩) (.cons (.tup (.cons (.q (.int (3) 0 ⟨292, 52, 292, 53⟩)) (.cons (.q (.int (1) 0 ⟨292, 55, 292, 56⟩)) .nil)) 0 ⟨292, 51, 292, 57⟩) (.cons (.tup (.cons (.q (.int (4) 0 ⟨292, 60, 292, 61⟩)) (.cons (.q (.int (1) 0 ⟨292, 63, 292, 64⟩)) .nil)) 0 ⟨292, 59, 292, 65⟩) .nil))))) ⟨292, 26, 292, 66⟩) (.cons (.lst .nil ⟨292, 68, 292, 70⟩) (.cons (.q (.int (0) 0 ⟨292, 72, 292, 73⟩)) (.cons (.q (.int (1) 0 ⟨292, 75, 292, 76⟩)) .nil))))) ⟨292, 22, 292, 77⟩) .nil) ⟨292, 11, 292, 21⟩ ⟨292, 11, 292, 78⟩) ⟨292, 4, 292, 8⟩ ⟨292, 4, 292, 78⟩)
 (.cons (.ite (.or (.cons (.not (.v (.e (.call 22 (.e true (.q (.rd (.var 3 ⟨293, 21, 293, 26⟩))) (.e true (.q (.rd (.var 2 ⟨293, 28, 293, 31⟩))) .nil)) ⟨293, 11, 293, 20⟩ ⟨293, 11, 293, 32⟩))) ⟨293, 7, 293, 32⟩) (.cons (.not (.v (.e (.call 25 (.mv 1 ⟨293, 51, 293, 54⟩ (.e true (.q (.rd (.var 3 ⟨293, 56, 293, 61⟩))) (.e true (.q (.rd (.var 2 ⟨293, 63, 293, 66⟩))) .nil))) ⟨293, 40, 293, 50⟩ ⟨293, 40, 293, 67⟩))) ⟨293, 36, 293, 67⟩) .nil)) ⟨293, 7, 293, 67⟩) (.cons (.ret (.q (.bl false 0 ⟨294, 15, 294, 20⟩)) ⟨294, 8, 294, 20⟩)
 .nil) .nil ⟨293, 4, 294, 20⟩)
 (.cons (.ite (.not (.v (.e (.call 22 (.e true (.q (.rd (.var 4 ⟨295, 21, 295, 25⟩))) (.e true (.lst (.cons (.q (.int (5) 0 ⟨295, 28, 295, 29⟩)) (.cons (.lst (.cons (.tup (.cons (.q (.int (0) 0 ⟨295, 33, 295, 34⟩)) (.cons (.q (.int (2) 0 ⟨295, 36, 295, 37⟩)) .nil)) 0 ⟨295, 32, 295, 38⟩) (.cons (.tup (.cons (.q (.int (2) 0 ⟨295, 41, 295, 42⟩)) (.cons (.q (.int (3) 0 ⟨295, 44, 295, 45⟩)) .nil)) 0 ⟨295, 40, 295, 46⟩) (.cons (.tup (.cons (.q (.int (3) 0 ⟨295, 49, 295, 50⟩)) (.cons (.q (.int (2) 0 ⟨295, 52, 295, 53⟩)) .nil)) 0 ⟨295, 48, 295, 54⟩) (.cons (.tup (.cons (.q (.int (3) 0 ⟨295, 57, 295, 58⟩)) (.cons (.q (.int (1) 0 ⟨295, 60, 295, 61⟩)) .nil)) 0 ⟨295, 56, 295, 62⟩) (.cons (.tup (.cons (.q (.int (4) 0 ⟨295, 65, 295, 66⟩)) (.cons (.q (.int (1) 0 ⟨295, 68, 295, 69⟩)) .nil)) 0 ⟨295, 64, 295, 70⟩) .nil))))) ⟨295, 31, 295, 71⟩) (.cons (.lst .nil ⟨295, 73, 295, 75⟩) (.cons (.q (.int (0) 0 ⟨295, 77, 295, 78⟩)) (.cons (.q (.int (1) 0 ⟨295, 80, 295, 81⟩)) .nil))))) ⟨295, 27, 295, 82⟩) .nil)) ⟨295, 11, 295, 20⟩ ⟨295, 11, 295, 83⟩))) ⟨295, 7, 295, 83⟩) (.cons (.ret (.q (.bl false 0 ⟨296, 15, 296, 20⟩)) ⟨296, 8, 296, 20⟩)
 .nil) .nil ⟨295, 4, 296, 20⟩)
 (.cons (.set 5 true n26_l0 ⟨297, 4, 297, 8⟩ ⟨297, 4, 297, 42⟩)
 (.cons (.ite (.and (.cons (.cmp .Eq (.e (.call 1 (.mv 1 ⟨298, 17, 298, 20⟩ (.e true (.q (.int (16) 0 ⟨298, 22, 298, 24⟩)) .nil)) ⟨298, 7, 298, 16⟩ ⟨298, 7, 298, 25⟩)) (.e (.q (.int (11) 0 ⟨298, 29, 298, 31⟩))) ⟨298, 7, 298, 31⟩) (.cons (.not (.v (.e (.call 22 (.e true (.make 1 (.e true (.q (.int (40) 0 ⟨298, 55, 298, 57⟩)) (.e true (.q (.rd (.var 5 ⟨298, 59, 298, 63⟩))) (.e true (.lst (.cons (.tup (.cons (.q (.int (39) 0 ⟨298, 67, 298, 69⟩)) (.cons (.q (.int (20) 0 ⟨298, 71, 298, 73⟩)) .nil)) 0 ⟨298, 66, 298, 74⟩) .nil) ⟨298, 65, 298, 75⟩) .nil))) .nil [] ⟨298, 51, 298, 54⟩ ⟨298, 51, 298, 76⟩) (.e true (.lst (.cons (.q (.int (40) 0 ⟨298, 79, 298, 81⟩)) (.cons (.q (.rd (.var 5 ⟨298, 83, 298, 87⟩))) (.cons (.lst (.cons (.tup (.cons (.q (.int (39) 0 ⟨298, 91, 298, 93⟩)) (.cons (.q (.int (20) 0 ⟨298, 95, 298, 97⟩)) .nil)) 0 ⟨298, 90, 298, 98⟩) .nil) ⟨298, 89, 298, 99⟩) (.cons (.q (.int (0) 0 ⟨298, 101, 298, 102⟩)) (.cons (.q (.int (1) 0 ⟨298, 104, 298, 105⟩)) .nil))))) ⟨298, 78, 298, 106⟩) .nil)) ⟨298, 41, 298, 50⟩ ⟨298, 41, 298, 107⟩))) ⟨298, 37, 298, 107⟩) .nil)) ⟨298, 7, 298, 108⟩) (.cons (.ret (.q (.bl false 0 ⟨299, 15, 299, 20⟩)) ⟨299, 8, 299, 20⟩)
 .nil) .nil ⟨298, 4, 299, 20⟩)
 (.cons (.ret (.call 22 (.e true (.q (.rd (.var 3 ⟨300, 21, 300, 26⟩))) (.e true (.q (.rd (.var 2 ⟨300, 28, 300, 31⟩))) .nil)) ⟨300, 11, 300, 20⟩ ⟨300, 11, 300, 32⟩) ⟨300, 4, 300, 32⟩)
 .nil)))))))))⟩
def k : Pk := ⟨G, [d0, d1, d2, d3, d4, d5, d6, d7, d8, d9, d10, d11, d12, d13, d14, d15, d16, d17, d18, d19, d20, d21, d22, d23, d24, d25, d26], [["script"], ["row", "many"], ["row"], ["x"], ["x", "low", "high"], ["xs"], ["pair", "places"], ["rows", "places"], ["self", "places", "panels", "ties", "near", "far"], ["web"], ["web", "start"], ["web"], ["thing"], ["thing", "due"], ["thing", "due"], ["ahead", "place"], ["web"], ["web", "place"], ["web"], ["web"], ["web"], ["web", "place"], ["given", "web"], ["self", "tail", "head"], ["self", "a", "b"], ["row", "given", "web"], ["script"]], [n0, n1, n2, n3, n4, n5, n6, n7, n8, n9, n10, n11, n12, n13, n14, n15, n16, n17, n18, n19, n20, n21, n22, n23, n24, n25, n26], 18446744073709551616⟩
theorem s0 : DefS k 0 := ⟨⟨rfl, rfl, rfl, by decide +kernel, rfl, by decide +kernel, by decide +kernel⟩, by kernel_rfl, by decide +kernel, rfl, rfl, by decide⟩
theorem s1 : DefS k 1 := ⟨⟨rfl, rfl, rfl, by decide +kernel, rfl, by decide +kernel, by decide +kernel⟩, by kernel_rfl, by decide +kernel, rfl, rfl, by decide⟩
theorem s2 : DefS k 2 := ⟨⟨rfl, rfl, rfl, by decide +kernel, rfl, by decide +kernel, by decide +kernel⟩, by kernel_rfl, by decide +kernel, rfl, rfl, by decide⟩
theorem s3 : DefS k 3 := ⟨⟨rfl, rfl, rfl, by decide +kernel, rfl, by decide +kernel, by decide +kernel⟩, by kernel_rfl, by decide +kernel, rfl, rfl, by decide⟩
theorem s4 : DefS k 4 := ⟨⟨rfl, rfl, rfl, by decide +kernel, rfl, by decide +kernel, by decide +kernel⟩, by kernel_rfl, by decide +kernel, rfl, rfl, by decide⟩
theorem s5 : DefS k 5 := ⟨⟨rfl, rfl, rfl, by decide +kernel, rfl, by decide +kernel, by decide +kernel⟩, by kernel_rfl, by decide +kernel, rfl, rfl, by decide⟩
theorem s6 : DefS k 6 := ⟨⟨rfl, rfl, rfl, by decide +kernel, rfl, by decide +kernel, by decide +kernel⟩, by kernel_rfl, by decide +kernel, rfl, rfl, by decide⟩
theorem s7 : DefS k 7 := ⟨⟨rfl, rfl, rfl, by decide +kernel, rfl, by decide +kernel, by decide +kernel⟩, by kernel_rfl, by decide +kernel, rfl, rfl, by decide⟩
theorem s8 : DefS k 8 := ⟨⟨rfl, rfl, rfl, by decide +kernel, rfl, by decide +kernel, by decide +kernel⟩, by kernel_rfl, by decide +kernel, rfl, rfl, by decide⟩
theorem s9 : DefS k 9 := ⟨⟨rfl, rfl, rfl, by decide +kernel, rfl, by decide +kernel, by decide +kernel⟩, by kernel_rfl, by decide +kernel, rfl, rfl, by decide⟩
theorem s10 : DefS k 10 := ⟨⟨rfl, rfl, rfl, by decide +kernel, rfl, by decide +kernel, by decide +kernel⟩, by kernel_rfl, by decide +kernel, rfl, rfl, by decide⟩
theorem s11 : DefS k 11 := ⟨⟨rfl, rfl, rfl, by decide +kernel, rfl, by decide +kernel, by decide +kernel⟩, by kernel_rfl, by decide +kernel, rfl, rfl, by decide⟩
theorem s12 : DefS k 12 := ⟨⟨rfl, rfl, rfl, by decide +kernel, rfl, by decide +kernel, by decide +kernel⟩, by kernel_rfl, by decide +kernel, rfl, rfl, by decide⟩
theorem s13 : DefS k 13 := ⟨⟨rfl, rfl, rfl, by decide +kernel, rfl, by decide +kernel, by decide +kernel⟩, by kernel_rfl, by decide +kernel, rfl, rfl, by decide⟩
theorem s14 : DefS k 14 := ⟨⟨rfl, rfl, rfl, by decide +kernel, rfl, by decide +kernel, by decide +kernel⟩, by kernel_rfl, by decide +kernel, rfl, rfl, by decide⟩
theorem s15 : DefS k 15 := ⟨⟨rfl, rfl, rfl, by decide +kernel, rfl, by decide +kernel, by decide +kernel⟩, by kernel_rfl, by decide +kernel, rfl, rfl, by decide⟩
theorem s16 : DefS k 16 := ⟨⟨rfl, rfl, rfl, by decide +kernel, rfl, by decide +kernel, by decide +kernel⟩, by kernel_rfl, by decide +kernel, rfl, rfl, by decide⟩
theorem s17 : DefS k 17 := ⟨⟨rfl, rfl, rfl, by decide +kernel, rfl, by decide +kernel, by decide +kernel⟩, by kernel_rfl, by decide +kernel, rfl, rfl, by decide⟩
theorem s18 : DefS k 18 := ⟨⟨rfl, rfl, rfl, by decide +kernel, rfl, by decide +kernel, by decide +kernel⟩, by kernel_rfl, by decide +kernel, rfl, rfl, by decide⟩
theorem s19 : DefS k 19 := ⟨⟨rfl, rfl, rfl, by decide +kernel, rfl, by decide +kernel, by decide +kernel⟩, by kernel_rfl, by decide +kernel, rfl, rfl, by decide⟩
theorem s20 : DefS k 20 := ⟨⟨rfl, rfl, rfl, by decide +kernel, rfl, by decide +kernel, by decide +kernel⟩, by kernel_rfl, by decide +kernel, rfl, rfl, by decide⟩
theorem s21 : DefS k 21 := ⟨⟨rfl, rfl, rfl, by decide +kernel, rfl, by decide +kernel, by decide +kernel⟩, by kernel_rfl, by decide +kernel, rfl, rfl, by decide⟩
theorem s22 : DefS k 22 := ⟨⟨rfl, rfl, rfl, by decide +kernel, rfl, by decide +kernel, by decide +kernel⟩, by kernel_rfl, by decide +kernel, rfl, rfl, by decide⟩
theorem s23 : DefS k 23 := ⟨⟨rfl, rfl, rfl, by decide +kernel, rfl, by decide +kernel, by decide +kernel⟩, by kernel_rfl, by decide +kernel, rfl, rfl, by decide⟩
theorem s24 : DefS k 24 := ⟨⟨rfl, rfl, rfl, by decide +kernel, rfl, by decide +kernel, by decide +kernel⟩, by kernel_rfl, by decide +kernel, rfl, rfl, by decide⟩
theorem s25 : DefS k 25 := ⟨⟨rfl, rfl, rfl, by decide +kernel, rfl, by decide +kernel, by decide +kernel⟩, by kernel_rfl, by decide +kernel, rfl, rfl, by decide⟩
theorem s26 : DefS k 26 := ⟨⟨rfl, rfl, rfl, by decide +kernel, rfl, by decide +kernel, by decide +kernel⟩, by kernel_rfl, by decide +kernel, rfl, rfl, by decide⟩
def nm0 : List PySem.Str := ["_wall", "ShadeError", "Exception", "BadNumber", "BadRow", "BadLot", "BadWeb", "TooMany", "is_whole", "whole", "row_of", "move_lists", "back_lists", "reach_row", "reached", "knots", "knot_of", "MOST_PLACES", "MOST_PANELS", "MOST_TIES", "two_places", "place_pairs", "new_places", "carried_pairs", "Web", "_law_draws", "_law_take", "_law_int", "_law_reach", "_law_reaches"]
def nm1 : List PySem.Str := ["_law_given", "_law_same", "_law_ints", "_law_any", "_law_refused", "_law_asks", "_law_grown"]
def names : List PySem.Str := nm0 ++ nm1
abbrev R : PySem.W.OpenRow := PySem.W.OpenLaw.row PySem.Challenge.rw_shadedstrings_k05_knots
def iLaw : Nat := 41
end K05

set_option Elab.async false
set_option linter.all false
set_option maxRecDepth 100000
set_option maxHeartbeats 0
namespace K05
open PySem PySem.Spec PyProof.Rows L2 DN
theorem run (w : World) : HandSHeadRun.RunEq R (PySem.W.view R.prog [iLaw]) (k.hook 6) (k.ob 6) 4000 names w := by
  intro os
  kernel_rfl
end K05

set_option Elab.async false
set_option linter.all false
set_option maxRecDepth 100000
set_option maxHeartbeats 4000000
namespace K05
open PySem PySem.Spec PyProof.Rows L2 DN
theorem b0 : k.byPos 0 = true → BindP k 0 := fun _ K fa fd F => FunD.bindsN F fun _ _ _ _ _ _ us hl => match us, hl with | [_], _ => rfl
theorem b1 : k.byPos 1 = true → BindP k 1 := fun _ K fa fd F => FunD.bindsN F fun _ _ _ _ _ _ us hl => match us, hl with | [_, _], _ => rfl
theorem b2 : k.byPos 2 = true → BindP k 2 := fun _ K fa fd F => FunD.bindsN F fun _ _ _ _ _ _ us hl => match us, hl with | [_], _ => rfl
theorem b3 : k.byPos 3 = true → BindP k 3 := fun _ K fa fd F => FunD.bindsN F fun _ _ _ _ _ _ us hl => match us, hl with | [_], _ => rfl
theorem b4 : k.byPos 4 = true → BindP k 4 := fun _ K fa fd F => FunD.bindsN F fun _ _ _ _ _ _ us hl => match us, hl with | [_, _, _], _ => rfl
theorem b5 : k.byPos 5 = true → BindP k 5 := fun _ K fa fd F => FunD.bindsN F fun _ _ _ _ _ _ us hl => match us, hl with | [_], _ => rfl
theorem b6 : k.byPos 6 = true → BindP k 6 := fun _ K fa fd F => FunD.bindsN F fun _ _ _ _ _ _ us hl => match us, hl with | [_, _], _ => rfl
theorem b7 : k.byPos 7 = true → BindP k 7 := fun _ K fa fd F => FunD.bindsN F fun _ _ _ _ _ _ us hl => match us, hl with | [_, _], _ => rfl
theorem b8 : k.byPos 8 = true → BindP k 8 := fun h => absurd h (by decide)
theorem b9 : k.byPos 9 = true → BindP k 9 := fun _ K fa fd F => FunD.bindsN F fun _ _ _ _ _ _ us hl => match us, hl with | [_], _ => rfl
theorem b10 : k.byPos 10 = true → BindP k 10 := fun _ K fa fd F => FunD.bindsN F fun _ _ _ _ _ _ us hl => match us, hl with | [_, _], _ => rfl
theorem b11 : k.byPos 11 = true → BindP k 11 := fun _ K fa fd F => FunD.bindsN F fun _ _ _ _ _ _ us hl => match us, hl with | [_], _ => rfl
theorem b12 : k.byPos 12 = true → BindP k 12 := fun _ K fa fd F => FunD.bindsN F fun _ _ _ _ _ _ us hl => match us, hl with | [_], _ => rfl
theorem b13 : k.byPos 13 = true → BindP k 13 := fun _ K fa fd F => FunD.bindsN F fun _ _ _ _ _ _ us hl => match us, hl with | [_, _], _ => rfl
theorem b14 : k.byPos 14 = true → BindP k 14 := fun _ K fa fd F => FunD.bindsN F fun _ _ _ _ _ _ us hl => match us, hl with | [_, _], _ => rfl
theorem b15 : k.byPos 15 = true → BindP k 15 := fun _ K fa fd F => FunD.bindsN F fun _ _ _ _ _ _ us hl => match us, hl with | [_, _], _ => rfl
theorem b16 : k.byPos 16 = true → BindP k 16 := fun _ K fa fd F => FunD.bindsN F fun _ _ _ _ _ _ us hl => match us, hl with | [_], _ => rfl
theorem b17 : k.byPos 17 = true → BindP k 17 := fun _ K fa fd F => FunD.bindsN F fun _ _ _ _ _ _ us hl => match us, hl with | [_, _], _ => rfl
theorem b18 : k.byPos 18 = true → BindP k 18 := fun _ K fa fd F => FunD.bindsN F fun _ _ _ _ _ _ us hl => match us, hl with | [_], _ => rfl
theorem b19 : k.byPos 19 = true → BindP k 19 := fun _ K fa fd F => FunD.bindsN F fun _ _ _ _ _ _ us hl => match us, hl with | [_], _ => rfl
theorem b20 : k.byPos 20 = true → BindP k 20 := fun _ K fa fd F => FunD.bindsN F fun _ _ _ _ _ _ us hl => match us, hl with | [_], _ => rfl
theorem b21 : k.byPos 21 = true → BindP k 21 := fun _ K fa fd F => FunD.bindsN F fun _ _ _ _ _ _ us hl => match us, hl with | [_, _], _ => rfl
theorem b22 : k.byPos 22 = true → BindP k 22 := fun _ K fa fd F => FunD.bindsN F fun _ _ _ _ _ _ us hl => match us, hl with | [_, _], _ => rfl
theorem b23 : k.byPos 23 = true → BindP k 23 := fun _ K fa fd F => FunD.bindsN F fun _ _ _ _ _ _ us hl => match us, hl with | [_, _, _], _ => rfl
theorem b24 : k.byPos 24 = true → BindP k 24 := fun _ K fa fd F => FunD.bindsN F fun _ _ _ _ _ _ us hl => match us, hl with | [_, _, _], _ => rfl
theorem b25 : k.byPos 25 = true → BindP k 25 := fun _ K fa fd F => FunD.bindsN F fun _ _ _ _ _ _ us hl => match us, hl with | [_, _, _], _ => rfl
theorem b26 : k.byPos 26 = true → BindP k 26 := fun _ K fa fd F => FunD.bindsN F fun _ _ _ _ _ _ us hl => match us, hl with | [_], _ => rfl
theorem m0 : MkP' k 0 := by
  intro K fa fd F
  obtain ⟨its, h⟩ := FunD.kbindsD (ps := ["self", "places", "panels", "ties", "near", "far"]) F 4 ["near", "far"] (fun us its ws => us ++ ws) (by intro z; cases z) (fun r1 r2 r3 => r1.append r3) (fun _ _ _ _ _ _ _ us its ws l1 l2 l3 => match us, its, ws, l1, l2, l3 with | [_, _, _, _], [_], [_, _], _, _, _ => ⟨_, rfl, rfl⟩)
  exact ⟨_, _, [], h, (fun vs zs _ h2 => by simp), fun _ _ _ => .nil⟩
theorem m1 : MkP' k 1 := by
  intro K fa fd F
  obtain ⟨its, mv, h⟩ := FunD.kbinds (ps := ["self", "places", "panels", "ties", "near", "far"]) F 4 [] [("near", V.int (0)), ("far", V.int (1))] (fun us its mv ws => us ++ (ws ++ mv)) (by intro z; cases z) (by intro z; cases z) (fun q hq => hq) (fun r1 r2 r3 r4 => r1.append (r4.append r3)) (fun _ _ _ _ _ _ _ us its mv ws l1 l2 l3 l4 => match us, its, mv, ws, l1, l2, l3, l4 with | [_, _, _, _], [_], [_, _], [], _, _, _, _ => ⟨_, rfl, ⟨_, _, _, _, _, _, rfl, rfl, ⟨_, _, _, _, _, _, rfl, rfl, rfl⟩⟩⟩)
  exact ⟨_, _, [V.int (0), V.int (1)], h, (fun vs zs _ h2 => by simp), fun _ _ _ => Reps.consN (.int _) (Reps.consN (.int _) (.nil))⟩
theorem stat : Stat k where
  len := rfl
  an := by decide +kernel
  nd := by decide +kernel
  dn := by decide +kernel
  mt := by decide +kernel
  mkr := by decide +kernel
  pt := rfl
  ex := by decide +kernel
  d := ⟨⟨⟨⟨⟨⟨⟨⟨⟨⟨⟨⟨⟨⟨⟨⟨⟨⟨⟨⟨⟨⟨⟨⟨⟨⟨⟨trivial, s0⟩, s1⟩, s2⟩, s3⟩, s4⟩, s5⟩, s6⟩, s7⟩, s8⟩, s9⟩, s10⟩, s11⟩, s12⟩, s13⟩, s14⟩, s15⟩, s16⟩, s17⟩, s18⟩, s19⟩, s20⟩, s21⟩, s22⟩, s23⟩, s24⟩, s25⟩, s26⟩
  b := ⟨⟨⟨⟨⟨⟨⟨⟨⟨⟨⟨⟨⟨⟨⟨⟨⟨⟨⟨⟨⟨⟨⟨⟨⟨⟨⟨trivial, b0⟩, b1⟩, b2⟩, b3⟩, b4⟩, b5⟩, b6⟩, b7⟩, b8⟩, b9⟩, b10⟩, b11⟩, b12⟩, b13⟩, b14⟩, b15⟩, b16⟩, b17⟩, b18⟩, b19⟩, b20⟩, b21⟩, b22⟩, b23⟩, b24⟩, b25⟩, b26⟩
  m := ⟨⟨trivial, m0⟩, m1⟩
theorem holds (math : ∀ ns : List Int, ns.length ≤ 63 → ∃ ps, Fof k.G k.fuel k.ds k.ds.length 26 [.scr ns] = .ok (.bl true) ps) : PySem.Challenge.rw_shadedstrings_k05_knots.Holds := by
  w_on; o_law
  refine HandSHeadRun.head_any (r := PySem.W.OpenLaw.row PySem.Challenge.rw_shadedstrings_k05_knots) (q := PySem.W.view (PySem.W.OpenLaw.row PySem.Challenge.rw_shadedstrings_k05_knots).prog [iLaw]) (H := k.hook 6) (ob := k.ob 6) (M := 4000) (loose := names) (d := HandSHeadRun.topDef (PySem.W.OpenLaw.row PySem.Challenge.rw_shadedstrings_k05_knots).prog iLaw) (kwd := []) (k.ob_eq 6)
    (by kernel_rfl) (fun s => by kernel_rfl) run (by kernel_rfl) (by kernel_rfl) (by kernel_rfl) (by rfl) (by first | assumption | decide +kernel) (by decide +kernel) ⟨rfl, rfl, rfl, rfl, rfl, by decide +kernel⟩ ?hw ?hc
  case hw => w_witness2
  case hc =>
    refine L2.walk_ofE (l := PySem.Challenge.rw_shadedstrings_k05_knots) (n := 63) (k := (k.G.lv.getD 26 0)) (x := "script") (CX := CX1 (PySem.Challenge.rw_shadedstrings_k05_knots).prog) rfl (by decide) (by kernel_rfl) ⟨rfl, by decide, by decide⟩ ?F (fun H s e s' z => cx1_no H s e s' z)
    intro w mg fa h Y G hmg0
    have hmg : mg ("law" : PySem.Str) = some (.ref fa) := by
      have e : (HandSHeadRun.topDef (PySem.W.OpenLaw.row PySem.Challenge.rw_shadedstrings_k05_knots).prog iLaw).name = ("law" : PySem.Str) := by kernel_rfl
      rw [← e]
      exact hmg0
    exact Pk.F (P := (PySem.Challenge.rw_shadedstrings_k05_knots).prog) (w := w) (k := k) (n := 63) (fL := 26) stat Y G hmg (by decide) rfl rfl rfl (fun K fa fd F s u => FunD.bindsA (ps := ["script"]) F (fun _ _ _ _ _ _ us hl => match us, hl with | [_], _ => rfl) s [u] rfl) math
end K05

set_option Elab.async false
set_option linter.all false
set_option maxRecDepth 100000
set_option maxHeartbeats 4000000
namespace K05
open PySem DN L2 SH
abbrev F (n : Nat) : Fns := Fof k.G k.fuel k.ds n
theorem F_at {n f : Nat} (h : f < n) (xs : List PV) : F n f xs = (k.ds.getD f default).run k.G (F f) k.fuel xs := Fof_at h xs
theorem kt_NoneType_int : kitB "NoneType" "int" = some false := by decide +kernel
theorem kt_bool_bool : kitB "bool" "bool" = some true := by decide +kernel
theorem kt_bool_int : kitB "bool" "int" = some true := by decide +kernel
theorem kt_int_bool : kitB "int" "bool" = some false := by decide +kernel
theorem kt_int_int : kitB "int" "int" = some true := by decide +kernel
theorem kt_list_list : kitB "list" "list" = some true := by decide +kernel
theorem kt_list_tuple : kitB "list" "tuple" = some false := by decide +kernel
theorem kt_str_int : kitB "str" "int" = some false := by decide +kernel
theorem kt_tuple_list : kitB "tuple" "list" = some false := by decide +kernel
theorem kt_tuple_tuple : kitB "tuple" "tuple" = some true := by decide +kernel
theorem fx_6_0 : fldIx k.G 6 0 = some 0 := by decide +kernel
theorem fx_6_1 : fldIx k.G 6 1 = some 1 := by decide +kernel
theorem fx_6_2 : fldIx k.G 6 2 = some 2 := by decide +kernel
theorem fx_6_3 : fldIx k.G 6 3 = some 3 := by decide +kernel
theorem fx_6_4 : fldIx k.G 6 4 = some 4 := by decide +kernel
theorem gl_0 (env : DEnv) (p : Pos) : (Qe.gl 0 p).ev k.G env = some (.int (40)) := rfl
theorem gl_1 (env : DEnv) (p : Pos) : (Qe.gl 1 p).ev k.G env = some (.int (60)) := rfl
theorem gl_2 (env : DEnv) (p : Pos) : (Qe.gl 2 p).ev k.G env = some (.int (60)) := rfl
structure Web where
  places : Int
  panels : (List (Int × Int))
  ties : (List (Int × Int))
  near : Int
  far : Int
def eWeb (o : Bool) (w : Web) : PV := .ins o 6 [PV.int w.places, (eV (eT2 PV.int PV.int)) w.panels, (eV (eT2 PV.int PV.int)) w.ties, PV.int w.near, PV.int w.far]
instance : Fz (eWeb false) := ⟨fun w => by simp only [eWeb, PV.frz, frzs, eL, eV, eT2, frzs_to, Fz.frz], fun _ => rfl⟩
instance : FzTo (eWeb true) (eWeb false) := ⟨fun w => by simp only [eWeb, PV.frz, frzs, eL, eV, eT2, frzs_to, Fz.frz]⟩
def p0_law_draws_f2  : Int → ((List Int) × Int) → M (Flow ((List Int) × Int) ((List Int) × Int) (List Int)) := fun k17 (row14, cell15) =>
 (if (decide ((0 : Int) < cell15)) then
 (gd (decide (row14.length < sizeLine))).bind fun _ =>
 .ok (.nx ((row14 ++ [(cell15 % (60 : Int))]), (cell15 / (60 : Int))))
else
 .ok (.nx (row14, cell15)))
def p0_law_draws_f3 (at_9 : Int) : Int → ((List Int) × Int) → M (Flow ((List Int) × Int) ((List Int) × Int) (List Int)) := fun k25 (row22, seed23) =>
 (gd (decide (row22.length < sizeLine))).bind fun _ =>
 .ok (.nx ((row22 ++ [((((((seed23 * (69069 : Int)) + (k25 * (12345 : Int))) + at_9) + (1 : Int)) % (4294967291 : Int)) / (64 : Int))]), (((((seed23 * (69069 : Int)) + (k25 * (12345 : Int))) + at_9) + (1 : Int)) % (4294967291 : Int))))
def p0_law_draws_f1 (script1 : (List Int)) : Int → (List Int) → M (Flow (List Int) (List Int) (List Int)) := fun at_9 row3 =>
 (M.of (atI script1 at_9)).bind fun y10 =>
 (M.andThen ((if (decide (y10 < (0 : Int))) then
 .ok (.nx (((0 : Int) - y10), (1 : Int)))
else
 .ok (.nx (y10, (0 : Int))))) fun (cell12, shift13) =>
 (if (decide (((10 : Int) ^ (Int.toNat (18 : Int))) ≤ cell12)) then
 (M.andThen (forF (p0_law_draws_f2) (rangeI 0 (48 : Int)) (row3, cell12)) fun (row19, cell20) =>
 .ok (.nx row19))
else
 (M.andThen (forF (p0_law_draws_f3 at_9) (rangeI 0 (5 : Int)) (row3, (((((cell12 * (16807 : Int)) + (at_9 * (7919 : Int))) + (shift13 * (104729 : Int))) + (3 : Int)) % (2147483647 : Int)))) fun (row27, seed28) =>
 .ok (.nx row27))))
def p0_law_draws_b (script1 : (List Int)) : M (Flow (List Int) Empty (List Int)) :=
 (gd (rgOk (min (script1.length : Int) (63 : Int)))).bind fun _ =>
 (M.andThen (forF (p0_law_draws_f1 script1) (rangeI 0 (min (script1.length : Int) (63 : Int))) ([] : List Int)) fun row30 =>
 .ok (.rt row30.reverse))
def p0_law_draws (script1 : (List Int)) : M (List Int) := toM (p0_law_draws_b script1)
theorem p0_law_draws_ok {n : Nat} (h : 0 < n) (script1 : (List Int)) : CF (fun a => (eL true PV.int) a) (fun a : (List Int) => [some (PV.scr script1)]) (fun z : Unit => [some (PV.scr script1)]) (F n 0 [(PV.scr script1)]) (p0_law_draws script1) := by
  rw [F_at h]
  refine run_simF (d := n0) (e := [(some (PV.scr script1)), none, none, none, none, none, none]) rfl ?_
  refine c_set ?_
  refine z_ok (e_lstL (PV.int) ([] : List Int) s_nil rfl) ?_
  refine z_fz (fz_no _) ?_
  refine c_for ?_
  refine x_r1 ?_
  refine z_ok (e_f2 (e_q (q_lenS (l_var rfl))) (e_q rfl) f_min) ?_
  refine g_gd ?_
  intro h2
  refine z_of (w_r1 h2) ?_
  refine z_for (E := (fun (s : (List Int)) (d : Option PV × Option PV × Option PV × Option PV × Option PV) => [(some (PV.scr script1)), (some ((eL true PV.int) s)), d.1, d.2.1, d.2.2.1, d.2.2.2.1, d.2.2.2.2])) (f := (p0_law_draws_f1 script1)) (s0 := ([] : List Int)) (none, none, none, none, none) rfl ?_ ?_
  · rintro at_9 row3 ⟨d4, d5, d6, d7, d8⟩
    refine ⟨_, (tp_one (e := PV.int)), ?_⟩
    refine c_set ?_
    refine g_of ?_
    intro y10 h11
    refine z_ok (e_f1 (b_e (e_q (q_sci (l_var rfl) (q_rd (l_var rfl) rfl) h11))) f_int) ?_
    refine z_fz (fz_to (e := PV.int) y10) ?_
    refine c_set ?_
    refine z_ok (e_q rfl) ?_
    refine z_fz (fz_to (e := PV.int) (0 : Int)) ?_
    refine c_iteE (E := (fun (s : (Int × Int)) (d : Unit) => [(some (PV.scr script1)), (some ((eL true PV.int) row3)), (some (PV.int at_9)), (some (PV.int s.1)), (some (PV.int s.2)), d7, d8])) ?_ ?_
    · refine z_ok (t_cmp (b_p (l_var rfl)) (b_e (e_q rfl)) rfl) ?_
      refine z_ifs ?_ ?_
      · refine c_set ?_
        refine z_ok (e_bin (b_e (e_q rfl)) (b_p (l_var rfl)) rfl) ?_
        refine z_fz (fz_to (e := PV.int) ((0 : Int) - y10)) ?_
        refine c_set ?_
        refine z_ok (e_q rfl) ?_
        refine z_fz (fz_to (e := PV.int) (1 : Int)) ?_
        exact c_nil ⟨(), rfl⟩
      exact c_nil ⟨(), rfl⟩
    rintro ⟨cell12, shift13⟩ _
    refine c_ite ?_
    refine z_ok (t_cmp (b_p (l_var rfl)) (b_e (e_q (q_bin rfl rfl (o_pow (by decide))))) rfl) ?_
    refine z_ifs ?_ ?_
    · refine c_for ?_
      refine x_r1 ?_
      refine z_ok (e_q rfl) ?_
      refine z_of (w_r1 (by decide)) ?_
      refine z_for (E := (fun (s : ((List Int) × Int)) (d : Option PV) => [(some (PV.scr script1)), (some ((eL true PV.int) s.1)), (some (PV.int at_9)), (some (PV.int s.2)), (some (PV.int shift13)), d, d8])) (f := (p0_law_draws_f2)) (s0 := (row3, cell12)) d7 rfl ?_ ?_
      · rintro k17 ⟨row14, cell15⟩ d16
        refine ⟨_, (tp_one (e := PV.int)), ?_⟩
        refine c_ite ?_
        refine z_ok (t_cmp (b_p (l_var rfl)) (b_e (e_q rfl)) rfl) ?_
        refine z_ifs ?_ ?_
        · refine c_appV rfl ?_
          refine z_ok (e_bin (b_e (e_f1 (b_p (l_var rfl)) f_int)) (b_e (e_q rfl)) (o_mod (by decide))) ?_
          refine g_gd ?_
          intro h18
          refine z_on (j_app (en := PV.int) (y := (cell15 % (60 : Int))) rfl h18) ?_
          refine c_set ?_
          refine z_ok (e_bin (b_p (l_var rfl)) (b_e (e_q rfl)) (o_fdiv (by decide))) ?_
          refine z_fz (fz_to (e := PV.int) (cell15 / (60 : Int))) ?_
          exact c_nil ⟨(some (PV.int k17)), rfl⟩
        exact c_nil ⟨(some (PV.int k17)), rfl⟩
      rintro ⟨row19, cell20⟩ d21
      exact c_nil ⟨((some (PV.int at_9)), (some (PV.int cell20)), (some (PV.int shift13)), d21, d8), rfl⟩
    refine c_set ?_
    refine z_ok (e_bin (b_e (e_f1 (b_e (e_q (q_bin (q_bin (q_bin (q_bin (q_rd (l_var rfl) rfl) rfl (o_mul (mulOk_r (by decide)))) (q_bin (q_rd (l_var rfl) rfl) rfl (o_mul (mulOk_r (by decide)))) rfl) (q_bin (q_rd (l_var rfl) rfl) rfl (o_mul (mulOk_r (by decide)))) rfl) rfl rfl))) f_int)) (b_e (e_q rfl)) (o_mod (by decide))) ?_
    refine z_fz (fz_to (e := PV.int) (((((cell12 * (16807 : Int)) + (at_9 * (7919 : Int))) + (shift13 * (104729 : Int))) + (3 : Int)) % (2147483647 : Int))) ?_
    refine c_for ?_
    refine x_r1 ?_
    refine z_ok (e_q rfl) ?_
    refine z_of (w_r1 (by decide)) ?_
    refine z_for (E := (fun (s : ((List Int) × Int)) (d : Option PV) => [(some (PV.scr script1)), (some ((eL true PV.int) s.1)), (some (PV.int at_9)), (some (PV.int cell12)), (some (PV.int shift13)), d, (some (PV.int s.2))])) (f := (p0_law_draws_f3 at_9)) (s0 := (row3, (((((cell12 * (16807 : Int)) + (at_9 * (7919 : Int))) + (shift13 * (104729 : Int))) + (3 : Int)) % (2147483647 : Int)))) d7 rfl ?_ ?_
    · rintro k25 ⟨row22, seed23⟩ d24
      refine ⟨_, (tp_one (e := PV.int)), ?_⟩
      refine c_set ?_
      refine z_ok (e_bin (b_e (e_f1 (b_e (e_q (q_bin (q_bin (q_bin (q_bin (q_rd (l_var rfl) rfl) rfl (o_mul (mulOk_r (by decide)))) (q_bin (q_rd (l_var rfl) rfl) rfl (o_mul (mulOk_r (by decide)))) rfl) (q_rd (l_var rfl) rfl) rfl) rfl rfl))) f_int)) (b_e (e_q rfl)) (o_mod (by decide))) ?_
      refine z_fz (fz_to (e := PV.int) (((((seed23 * (69069 : Int)) + (k25 * (12345 : Int))) + at_9) + (1 : Int)) % (4294967291 : Int))) ?_
      refine c_appV rfl ?_
      refine z_ok (e_bin (b_p (l_var rfl)) (b_e (e_q rfl)) (o_fdiv (by decide))) ?_
      refine g_gd ?_
      intro h26
      refine z_on (j_app (en := PV.int) (y := ((((((seed23 * (69069 : Int)) + (k25 * (12345 : Int))) + at_9) + (1 : Int)) % (4294967291 : Int)) / (64 : Int))) rfl h26) ?_
      exact c_nil ⟨(some (PV.int k25)), rfl⟩
    rintro ⟨row27, seed28⟩ d29
    exact c_nil ⟨((some (PV.int at_9)), (some (PV.int cell12)), (some (PV.int shift13)), d29, (some (PV.int seed28))), rfl⟩
  rintro row30 ⟨d31, d32, d33, d34, d35⟩
  refine c_rev rfl ?_
  refine c_ret ?_
  refine z_ok (e_mv rfl) ?_
  exact z_rt ⟨rfl, rfl⟩
def p1_law_take_b (row1 : (List Int)) (many2 : Int) : M (Flow (Int × (List Int)) Empty (Int × (List Int))) :=
 (if (decide ((row1.length : Int) = (0 : Int))) then
 .ok (.rt ((0 : Int), row1))
else
 (M.of (row1.getLast?)).bind fun y3 =>
 (gd (decide ((0 : Int) < many2))).bind fun _ =>
 .ok (.rt ((y3 % many2), row1.dropLast)))
def p1_law_take (row1 : (List Int)) (many2 : Int) : M (Int × (List Int)) := toM (p1_law_take_b row1 many2)
theorem p1_law_take_ok {n : Nat} (h : 1 < n) (row1 : (List Int)) (many2 : Int) : CF (fun a => PV.int a.1) (fun a : (Int × (List Int)) => [some ((eL true PV.int) a.2), some (PV.int many2)]) (fun z : Option PV => [z, some (PV.int many2)]) (F n 1 [((eL true PV.int) row1), (PV.int many2)]) (p1_law_take row1 many2) := by
  rw [F_at h]
  refine run_simF (d := n1) (e := [(some ((eL true PV.int) row1)), (some (PV.int many2))]) rfl ?_
  refine c_ite ?_
  refine z_ok (t_cmp (b_e (e_q (q_lenL (l_var rfl)))) (b_e (e_q rfl)) (c_eq (e := PV.int) (a := (row1.length : Int)) (b := (0 : Int)) (by decide))) ?_
  refine z_ifs ?_ ?_
  · refine c_ret ?_
    refine z_ok (e_q rfl) ?_
    exact z_rt ⟨rfl, rfl⟩
  refine c_ret ?_
  refine g_of ?_
  intro y3 h4
  refine g_gd ?_
  intro h5
  refine z_ok (e_bin (b_e (e_f1 (b_e (e_pop rfl h4)) f_int)) (b_p (l_var rfl)) (o_mod h5)) ?_
  exact z_rt ⟨rfl, rfl⟩
def p2_law_any_f1 (y4 : Int) : Int → ((List Int) × (List (Int × Int))) → M (Flow ((List Int) × (List (Int × Int))) ((List Int) × (List (Int × Int))) ((Int × (List (Int × Int)) × (List (Int × Int)) × Int × Int) × (List Int))) := fun k15 (row11, panels12) =>
 (p1_law_take row11 y4).bind fun (v16, row17) =>
 (p1_law_take row17 y4).bind fun (v18, row19) =>
 (gd (decide ((0 : Int) < y4))).bind fun _ =>
 (gd (decide (panels12.length < sizeLine))).bind fun _ =>
 .ok (.nx (row19, (panels12 ++ [(v16, (((v16 + (1 : Int)) + v18) % y4))])))
def p2_law_any_f2 (y4 : Int) : Int → ((List Int) × (List (Int × Int))) → M (Flow ((List Int) × (List (Int × Int))) ((List Int) × (List (Int × Int))) ((Int × (List (Int × Int)) × (List (Int × Int)) × Int × Int) × (List Int))) := fun k37 (row33, ties34) =>
 (p1_law_take row33 y4).bind fun (v38, row39) =>
 (p1_law_take row39 y4).bind fun (v40, row41) =>
 (gd (decide ((0 : Int) < y4))).bind fun _ =>
 (gd (decide (ties34.length < sizeLine))).bind fun _ =>
 .ok (.nx (row41, (ties34 ++ [(v38, (((v38 + (1 : Int)) + v40) % y4))])))
def p2_law_any_b (row1 : (List Int)) : M (Flow ((Int × (List (Int × Int)) × (List (Int × Int)) × Int × Int) × (List Int)) Empty ((Int × (List (Int × Int)) × (List (Int × Int)) × Int × Int) × (List Int))) :=
 (p1_law_take row1 (8 : Int)).bind fun (v2, row3) =>
 (M.of (atI [(4 : Int), (3 : Int), (5 : Int), (2 : Int), (6 : Int), (9 : Int), (7 : Int), (8 : Int)] v2)).bind fun y4 =>
 (p1_law_take row3 (8 : Int)).bind fun (v6, row7) =>
 (M.of (atI [(5 : Int), (3 : Int), (8 : Int), (1 : Int), (0 : Int), (11 : Int), (2 : Int), (13 : Int)] v6)).bind fun y8 =>
 (gd (rgOk y8)).bind fun _ =>
 (M.andThen (forF (p2_law_any_f1 y4) (rangeI 0 y8) (row7, ([] : List (Int × Int)))) fun (row24, panels25) =>
 (p1_law_take row24 (6 : Int)).bind fun (v28, row29) =>
 (M.of (atI [(0 : Int), (1 : Int), (0 : Int), (2 : Int), (0 : Int), (4 : Int)] v28)).bind fun y30 =>
 (gd (rgOk y30)).bind fun _ =>
 (M.andThen (forF (p2_law_any_f2 y4) (rangeI 0 y30) (row29, ([] : List (Int × Int)))) fun (row46, ties47) =>
 (p1_law_take row46 y4).bind fun (v50, row51) =>
 (p1_law_take row51 (y4 - (1 : Int))).bind fun (v52, row53) =>
 (gd (decide ((0 : Int) < y4))).bind fun _ =>
 .ok (.rt ((y4, panels25, ties47, v50, (((v50 + (1 : Int)) + v52) % y4)), row53))))
def p2_law_any (row1 : (List Int)) : M ((Int × (List (Int × Int)) × (List (Int × Int)) × Int × Int) × (List Int)) := toM (p2_law_any_b row1)
theorem p2_law_any_ok {n : Nat} (h : 2 < n) (row1 : (List Int)) : CF (fun a => (eH5 true PV.int (eL false (eT2 PV.int PV.int)) (eL false (eT2 PV.int PV.int)) PV.int PV.int) a.1) (fun a : ((Int × (List (Int × Int)) × (List (Int × Int)) × Int × Int) × (List Int)) => [some ((eL true PV.int) a.2)]) (fun z : Option PV => [z]) (F n 2 [((eL true PV.int) row1)]) (p2_law_any row1) := by
  rw [F_at h]
  refine run_simF (d := n2) (e := [(some ((eL true PV.int) row1)), none, none, none, none, none, none, none, none]) rfl ?_
  refine c_set ?_
  refine x_ixE ?_
  refine z_ok (e_lstL (PV.int) [(4 : Int), (3 : Int), (5 : Int), (2 : Int), (6 : Int), (9 : Int), (7 : Int), (8 : Int)] (s_cons (e_q rfl) (s_cons (e_q rfl) (s_cons (e_q rfl) (s_cons (e_q rfl) (s_cons (e_q rfl) (s_cons (e_q rfl) (s_cons (e_q rfl) (s_cons (e_q rfl) s_nil)))))))) rfl) ?_
  refine x_call ?_
  refine z_ok (a_mv rfl (a_e (e_q rfl) (fz_to (e := PV.int) (8 : Int)) a_nil)) ?_
  refine z_call (e2 := [none, none, none, none, none, none, none, none, none]) (E3 := fun a => [(some ((eL true PV.int) a.2)), none, none, none, none, none, none, none, none]) rfl rfl (p1_law_take_ok (n := 2) (by decide) row1 (8 : Int)) (fun _ => rfl) (fun d59 _ => ⟨d59, rfl⟩) ?_
  rintro ⟨v2, row3⟩
  refine g_of ?_
  intro y4 h5
  refine z_ok (r_ixL h5) ?_
  refine z_fz (fz_to (e := PV.int) y4) ?_
  refine c_set ?_
  refine z_ok (e_lstL ((eT2 PV.int PV.int)) ([] : List (Int × Int)) s_nil rfl) ?_
  refine z_fz (fz_no _) ?_
  refine c_for ?_
  refine x_r1 ?_
  refine x_ixE ?_
  refine z_ok (e_lstL (PV.int) [(5 : Int), (3 : Int), (8 : Int), (1 : Int), (0 : Int), (11 : Int), (2 : Int), (13 : Int)] (s_cons (e_q rfl) (s_cons (e_q rfl) (s_cons (e_q rfl) (s_cons (e_q rfl) (s_cons (e_q rfl) (s_cons (e_q rfl) (s_cons (e_q rfl) (s_cons (e_q rfl) s_nil)))))))) rfl) ?_
  refine x_call ?_
  refine z_ok (a_mv rfl (a_e (e_q rfl) (fz_to (e := PV.int) (8 : Int)) a_nil)) ?_
  refine z_call (e2 := [none, (some (PV.int y4)), (some ((eL true (eT2 PV.int PV.int)) ([] : List (Int × Int)))), none, none, none, none, none, none]) (E3 := fun a => [(some ((eL true PV.int) a.2)), (some (PV.int y4)), (some ((eL true (eT2 PV.int PV.int)) ([] : List (Int × Int)))), none, none, none, none, none, none]) rfl rfl (p1_law_take_ok (n := 2) (by decide) row3 (8 : Int)) (fun _ => rfl) (fun d58 _ => ⟨d58, rfl⟩) ?_
  rintro ⟨v6, row7⟩
  refine g_of ?_
  intro y8 h9
  refine z_ok (r_ixL h9) ?_
  refine g_gd ?_
  intro h10
  refine z_of (w_r1 h10) ?_
  refine z_for (E := (fun (s : ((List Int) × (List (Int × Int)))) (d : Option PV × Option PV) => [(some ((eL true PV.int) s.1)), (some (PV.int y4)), (some ((eL true (eT2 PV.int PV.int)) s.2)), d.1, d.2, none, none, none, none])) (f := (p2_law_any_f1 y4)) (s0 := (row7, ([] : List (Int × Int)))) (none, none) rfl ?_ ?_
  · rintro k15 ⟨row11, panels12⟩ ⟨d13, d14⟩
    refine ⟨_, (tp_one (e := PV.int)), ?_⟩
    refine c_set ?_
    refine x_call ?_
    refine z_ok (a_mv rfl (a_e (e_q (q_rd (l_var rfl) rfl)) (fz_to (e := PV.int) y4) a_nil)) ?_
    refine z_call (e2 := [none, (some (PV.int y4)), (some ((eL true (eT2 PV.int PV.int)) panels12)), (some (PV.int k15)), d14, none, none, none, none]) (E3 := fun a => [(some ((eL true PV.int) a.2)), (some (PV.int y4)), (some ((eL true (eT2 PV.int PV.int)) panels12)), (some (PV.int k15)), d14, none, none, none, none]) rfl rfl (p1_law_take_ok (n := 2) (by decide) row11 y4) (fun _ => rfl) (fun d23 _ => ⟨d23, rfl⟩) ?_
    rintro ⟨v16, row17⟩
    refine z_fz (fz_to (e := PV.int) v16) ?_
    refine c_appV rfl ?_
    refine x_tup ?_
    refine xs_cons ?_
    refine z_ok (e_q (q_rd (l_var rfl) rfl)) ?_
    refine xs_cons ?_
    refine x_bin ?_
    refine x_Be ?_
    refine x_f1 ?_
    refine x_Be ?_
    refine x_bin ?_
    refine z_ok (b_e (e_q (q_bin (q_rd (l_var rfl) rfl) rfl rfl))) ?_
    refine x_Be ?_
    refine x_call ?_
    refine z_ok (a_mv rfl (a_e (e_q (q_rd (l_var rfl) rfl)) (fz_to (e := PV.int) y4) a_nil)) ?_
    refine z_call (e2 := [none, (some (PV.int y4)), (some ((eL true (eT2 PV.int PV.int)) panels12)), (some (PV.int k15)), (some (PV.int v16)), none, none, none, none]) (E3 := fun a => [(some ((eL true PV.int) a.2)), (some (PV.int y4)), (some ((eL true (eT2 PV.int PV.int)) panels12)), (some (PV.int k15)), (some (PV.int v16)), none, none, none, none]) rfl rfl (p1_law_take_ok (n := 2) (by decide) row17 y4) (fun _ => rfl) (fun d22 _ => ⟨d22, rfl⟩) ?_
    rintro ⟨v18, row19⟩
    refine z_of rfl ?_
    refine z_of f_int ?_
    refine z_ok (b_p (l_var rfl)) ?_
    refine g_gd ?_
    intro h20
    refine z_of (o_mod h20) ?_
    refine xs_nil ?_
    refine z_ok (r_tup rfl rfl) ?_
    refine g_gd ?_
    intro h21
    refine z_on (j_app (en := (eT2 PV.int PV.int)) (y := (v16, (((v16 + (1 : Int)) + v18) % y4))) rfl h21) ?_
    exact c_nil ⟨((some (PV.int k15)), (some (PV.int v16))), rfl⟩
  rintro ⟨row24, panels25⟩ ⟨d26, d27⟩
  refine c_set ?_
  refine z_ok (e_lstL ((eT2 PV.int PV.int)) ([] : List (Int × Int)) s_nil rfl) ?_
  refine z_fz (fz_no _) ?_
  refine c_for ?_
  refine x_r1 ?_
  refine x_ixE ?_
  refine z_ok (e_lstL (PV.int) [(0 : Int), (1 : Int), (0 : Int), (2 : Int), (0 : Int), (4 : Int)] (s_cons (e_q rfl) (s_cons (e_q rfl) (s_cons (e_q rfl) (s_cons (e_q rfl) (s_cons (e_q rfl) (s_cons (e_q rfl) s_nil)))))) rfl) ?_
  refine x_call ?_
  refine z_ok (a_mv rfl (a_e (e_q rfl) (fz_to (e := PV.int) (6 : Int)) a_nil)) ?_
  refine z_call (e2 := [none, (some (PV.int y4)), (some ((eL true (eT2 PV.int PV.int)) panels25)), d26, d27, (some ((eL true (eT2 PV.int PV.int)) ([] : List (Int × Int)))), none, none, none]) (E3 := fun a => [(some ((eL true PV.int) a.2)), (some (PV.int y4)), (some ((eL true (eT2 PV.int PV.int)) panels25)), d26, d27, (some ((eL true (eT2 PV.int PV.int)) ([] : List (Int × Int)))), none, none, none]) rfl rfl (p1_law_take_ok (n := 2) (by decide) row24 (6 : Int)) (fun _ => rfl) (fun d57 _ => ⟨d57, rfl⟩) ?_
  rintro ⟨v28, row29⟩
  refine g_of ?_
  intro y30 h31
  refine z_ok (r_ixL h31) ?_
  refine g_gd ?_
  intro h32
  refine z_of (w_r1 h32) ?_
  refine z_for (E := (fun (s : ((List Int) × (List (Int × Int)))) (d : Option PV × Option PV) => [(some ((eL true PV.int) s.1)), (some (PV.int y4)), (some ((eL true (eT2 PV.int PV.int)) panels25)), d.1, d27, (some ((eL true (eT2 PV.int PV.int)) s.2)), d.2, none, none])) (f := (p2_law_any_f2 y4)) (s0 := (row29, ([] : List (Int × Int)))) (d26, none) rfl ?_ ?_
  · rintro k37 ⟨row33, ties34⟩ ⟨d35, d36⟩
    refine ⟨_, (tp_one (e := PV.int)), ?_⟩
    refine c_set ?_
    refine x_call ?_
    refine z_ok (a_mv rfl (a_e (e_q (q_rd (l_var rfl) rfl)) (fz_to (e := PV.int) y4) a_nil)) ?_
    refine z_call (e2 := [none, (some (PV.int y4)), (some ((eL true (eT2 PV.int PV.int)) panels25)), (some (PV.int k37)), d27, (some ((eL true (eT2 PV.int PV.int)) ties34)), d36, none, none]) (E3 := fun a => [(some ((eL true PV.int) a.2)), (some (PV.int y4)), (some ((eL true (eT2 PV.int PV.int)) panels25)), (some (PV.int k37)), d27, (some ((eL true (eT2 PV.int PV.int)) ties34)), d36, none, none]) rfl rfl (p1_law_take_ok (n := 2) (by decide) row33 y4) (fun _ => rfl) (fun d45 _ => ⟨d45, rfl⟩) ?_
    rintro ⟨v38, row39⟩
    refine z_fz (fz_to (e := PV.int) v38) ?_
    refine c_appV rfl ?_
    refine x_tup ?_
    refine xs_cons ?_
    refine z_ok (e_q (q_rd (l_var rfl) rfl)) ?_
    refine xs_cons ?_
    refine x_bin ?_
    refine x_Be ?_
    refine x_f1 ?_
    refine x_Be ?_
    refine x_bin ?_
    refine z_ok (b_e (e_q (q_bin (q_rd (l_var rfl) rfl) rfl rfl))) ?_
    refine x_Be ?_
    refine x_call ?_
    refine z_ok (a_mv rfl (a_e (e_q (q_rd (l_var rfl) rfl)) (fz_to (e := PV.int) y4) a_nil)) ?_
    refine z_call (e2 := [none, (some (PV.int y4)), (some ((eL true (eT2 PV.int PV.int)) panels25)), (some (PV.int k37)), d27, (some ((eL true (eT2 PV.int PV.int)) ties34)), (some (PV.int v38)), none, none]) (E3 := fun a => [(some ((eL true PV.int) a.2)), (some (PV.int y4)), (some ((eL true (eT2 PV.int PV.int)) panels25)), (some (PV.int k37)), d27, (some ((eL true (eT2 PV.int PV.int)) ties34)), (some (PV.int v38)), none, none]) rfl rfl (p1_law_take_ok (n := 2) (by decide) row39 y4) (fun _ => rfl) (fun d44 _ => ⟨d44, rfl⟩) ?_
    rintro ⟨v40, row41⟩
    refine z_of rfl ?_
    refine z_of f_int ?_
    refine z_ok (b_p (l_var rfl)) ?_
    refine g_gd ?_
    intro h42
    refine z_of (o_mod h42) ?_
    refine xs_nil ?_
    refine z_ok (r_tup rfl rfl) ?_
    refine g_gd ?_
    intro h43
    refine z_on (j_app (en := (eT2 PV.int PV.int)) (y := (v38, (((v38 + (1 : Int)) + v40) % y4))) rfl h43) ?_
    exact c_nil ⟨((some (PV.int k37)), (some (PV.int v38))), rfl⟩
  rintro ⟨row46, ties47⟩ ⟨d48, d49⟩
  refine c_set ?_
  refine x_call ?_
  refine z_ok (a_mv rfl (a_e (e_q (q_rd (l_var rfl) rfl)) (fz_to (e := PV.int) y4) a_nil)) ?_
  refine z_call (e2 := [none, (some (PV.int y4)), (some ((eL true (eT2 PV.int PV.int)) panels25)), d48, d27, (some ((eL true (eT2 PV.int PV.int)) ties47)), d49, none, none]) (E3 := fun a => [(some ((eL true PV.int) a.2)), (some (PV.int y4)), (some ((eL true (eT2 PV.int PV.int)) panels25)), d48, d27, (some ((eL true (eT2 PV.int PV.int)) ties47)), d49, none, none]) rfl rfl (p1_law_take_ok (n := 2) (by decide) row46 y4) (fun _ => rfl) (fun d56 _ => ⟨d56, rfl⟩) ?_
  rintro ⟨v50, row51⟩
  refine z_fz (fz_to (e := PV.int) v50) ?_
  refine c_set ?_
  refine x_bin ?_
  refine x_Be ?_
  refine x_f1 ?_
  refine x_Be ?_
  refine x_bin ?_
  refine z_ok (b_e (e_q (q_bin (q_rd (l_var rfl) rfl) rfl rfl))) ?_
  refine x_Be ?_
  refine x_call ?_
  refine z_ok (a_mv rfl (a_e (e_bin (b_p (l_var rfl)) (b_e (e_q rfl)) rfl) (fz_to (e := PV.int) (y4 - (1 : Int))) a_nil)) ?_
  refine z_call (e2 := [none, (some (PV.int y4)), (some ((eL true (eT2 PV.int PV.int)) panels25)), d48, d27, (some ((eL true (eT2 PV.int PV.int)) ties47)), d49, (some (PV.int v50)), none]) (E3 := fun a => [(some ((eL true PV.int) a.2)), (some (PV.int y4)), (some ((eL true (eT2 PV.int PV.int)) panels25)), d48, d27, (some ((eL true (eT2 PV.int PV.int)) ties47)), d49, (some (PV.int v50)), none]) rfl rfl (p1_law_take_ok (n := 2) (by decide) row51 (y4 - (1 : Int))) (fun _ => rfl) (fun d55 _ => ⟨d55, rfl⟩) ?_
  rintro ⟨v52, row53⟩
  refine z_of rfl ?_
  refine z_of f_int ?_
  refine z_ok (b_p (l_var rfl)) ?_
  refine g_gd ?_
  intro h54
  refine z_of (o_mod h54) ?_
  refine z_fz (fz_to (e := PV.int) (((v50 + (1 : Int)) + v52) % y4)) ?_
  refine c_ret ?_
  refine z_ok (e_lst (s_cons (e_q (q_rd (l_var rfl) rfl)) (s_cons (e_fz (e := (eL true (eT2 PV.int PV.int))) (a := panels25) rfl) (s_cons (e_fz (e := (eL true (eT2 PV.int PV.int))) (a := ties47) rfl) (s_cons (e_q (q_rd (l_var rfl) rfl)) (s_cons (e_q (q_rd (l_var rfl) rfl)) s_nil))))) rfl) ?_
  exact z_rt ⟨rfl, rfl⟩
def p3_is_whole_b (x1 : Int) : M (Flow Unit Empty Unit) :=
 .ok (.rt ())
def p3_is_whole (x1 : Int) : M Unit := toM (p3_is_whole_b x1)
theorem p3_is_whole_ok {n : Nat} (h : 3 < n) (x1 : Int) : CF (fun a => (fun (_ : Unit) => PV.bl true) a) (fun a : Unit => [some (PV.int x1)]) (fun z : Unit => [some (PV.int x1)]) (F n 3 [(PV.int x1)]) (p3_is_whole x1) := by
  rw [F_at h]
  refine run_simF (d := n3) (e := [(some (PV.int x1))]) rfl ?_
  refine c_ret ?_
  refine z_ok (e_and (e_isi (q_rd (l_var rfl) rfl) (isi_ty rfl kt_int_int)) (fun _ => (ea_one (e_not (e_isi (q_rd (l_var rfl) rfl) (isi_ty rfl kt_int_bool)))))) ?_
  exact z_rt ⟨rfl, rfl⟩
def p4_whole_b (x1 : Int) (low2 : Int) (high3 : Int) : M (Flow Int Empty Int) :=
 (p3_is_whole x1).bind fun v4 =>
 (if (true && (decide (x1 < low2))) then
 (.exc 1)
else
 (if (true && (decide (high3 < x1))) then
 (.exc 1)
else
 .ok (.rt x1)))
def p4_whole (x1 : Int) (low2 : Int) (high3 : Int) : M Int := toM (p4_whole_b x1 low2 high3)
theorem p4_whole_ok {n : Nat} (h : 4 < n) (x1 : Int) (low2 : Int) (high3 : Int) : CF (fun a => PV.int a) (fun a : Int => [some (PV.int x1), some (PV.int low2), some (PV.int high3)]) (fun z : Unit => [some (PV.int x1), some (PV.int low2), some (PV.int high3)]) (F n 4 [(PV.int x1), (PV.int low2), (PV.int high3)]) (p4_whole x1 low2 high3) := by
  rw [F_at h]
  refine run_simF (d := n4) (e := [(some (PV.int x1)), (some (PV.int low2)), (some (PV.int high3))]) rfl ?_
  refine c_ite ?_
  refine x_tnot ?_
  refine x_tv ?_
  refine x_Be ?_
  refine x_call ?_
  refine z_ok (a_e (e_q (q_rd (l_var rfl) rfl)) (fz_to (e := PV.int) x1) a_nil) ?_
  refine z_call (e2 := [(some (PV.int x1)), (some (PV.int low2)), (some (PV.int high3))]) (E3 := fun a => [(some (PV.int x1)), (some (PV.int low2)), (some (PV.int high3))]) rfl rfl (p3_is_whole_ok (n := 4) (by decide) x1) (fun _ => rfl) (fun _ _ => ⟨(), rfl⟩) ?_
  intro v4
  refine z_of rfl ?_
  refine z_ifF ?_
  refine c_ite ?_
  refine z_ok (t_and (ta_cons (t_cmp (b_p (l_var rfl)) (b_e (e_q rfl)) rfl) (fun _ => (ta_one (t_cmp (b_p (l_var rfl)) (b_p (l_var rfl)) rfl))))) ?_
  refine z_ifs ?_ ?_
  · exact c_raise ⟨(), rfl⟩
  refine c_ite ?_
  refine z_ok (t_and (ta_cons (t_cmp (b_p (l_var rfl)) (b_e (e_q rfl)) rfl) (fun _ => (ta_one (t_cmp (b_p (l_var rfl)) (b_p (l_var rfl)) rfl))))) ?_
  refine z_ifs ?_ ?_
  · exact c_raise ⟨(), rfl⟩
  refine c_ret ?_
  refine z_ok (e_q (q_rd (l_var rfl) rfl)) ?_
  exact z_rt ⟨rfl, rfl⟩
def p5_row_of_b (xs1 : (List (Int × Int))) : M (Flow (List (Int × Int)) Empty (List (Int × Int))) :=
 .ok (.rt xs1)
def p5_row_of (xs1 : (List (Int × Int))) : M (List (Int × Int)) := toM (p5_row_of_b xs1)
theorem p5_row_of_ok {n : Nat} (h : 5 < n) (xs1 : (List (Int × Int))) : CF (fun a => (eV (eT2 PV.int PV.int)) a) (fun a : (List (Int × Int)) => [some ((eL false (eT2 PV.int PV.int)) xs1)]) (fun z : Unit => [some ((eL false (eT2 PV.int PV.int)) xs1)]) (F n 5 [((eL false (eT2 PV.int PV.int)) xs1)]) (p5_row_of xs1) := by
  rw [F_at h]
  refine run_simF (d := n5) (e := [(some ((eL false (eT2 PV.int PV.int)) xs1))]) rfl ?_
  refine c_ite ?_
  refine z_ok (t_not (t_v (b_e (e_isi2 (q_rd (l_var rfl) rfl) (isis_t (isi_ty rfl kt_list_list)))) rfl)) ?_
  refine z_ifF ?_
  refine c_ret ?_
  refine z_ok (e_f1 (b_p (l_var rfl)) f_tupL) ?_
  exact z_rt ⟨rfl, rfl⟩
def p5_row_of_1_b (xs1 : (Int × Int)) : M (Flow (Int × Int) Empty (Int × Int)) :=
 .ok (.rt xs1)
def p5_row_of_1 (xs1 : (Int × Int)) : M (Int × Int) := toM (p5_row_of_1_b xs1)
theorem p5_row_of_1_ok {n : Nat} (h : 5 < n) (xs1 : (Int × Int)) : CF (fun a => (eT2 PV.int PV.int) a) (fun a : (Int × Int) => [some ((eT2 PV.int PV.int) xs1)]) (fun z : Unit => [some ((eT2 PV.int PV.int) xs1)]) (F n 5 [((eT2 PV.int PV.int) xs1)]) (p5_row_of_1 xs1) := by
  rw [F_at h]
  refine run_simF (d := n5) (e := [(some ((eT2 PV.int PV.int) xs1))]) rfl ?_
  refine c_ite ?_
  refine z_ok (t_not (t_v (b_e (e_isi2 (q_rd (l_var rfl) rfl) (isis_f (isi_ty rfl kt_tuple_list) (isis_t (isi_ty rfl kt_tuple_tuple))))) rfl)) ?_
  refine z_ifF ?_
  refine c_ret ?_
  refine z_ok (e_f1 (b_p (l_var rfl)) rfl) ?_
  exact z_rt ⟨rfl, rfl⟩
def p6_two_places_b (pair1 : (Int × Int)) (places2 : Int) : M (Flow (Int × Int) Empty (Int × Int)) :=
 (p5_row_of_1 pair1).bind fun v3 =>
 (if (!decide ((2 : Int) = (2 : Int))) then
 (.exc 2)
else
 (p4_whole v3.1 (0 : Int) (places2 - (1 : Int))).bind fun v4 =>
 (p4_whole v3.2 (0 : Int) (places2 - (1 : Int))).bind fun v5 =>
 .ok (.rt (v4, v5)))
def p6_two_places (pair1 : (Int × Int)) (places2 : Int) : M (Int × Int) := toM (p6_two_places_b pair1 places2)
theorem p6_two_places_ok {n : Nat} (h : 6 < n) (pair1 : (Int × Int)) (places2 : Int) : CF (fun a => (eT2 PV.int PV.int) a) (fun a : (Int × Int) => [some ((eT2 PV.int PV.int) pair1), some (PV.int places2)]) (fun z : Unit => [some ((eT2 PV.int PV.int) pair1), some (PV.int places2)]) (F n 6 [((eT2 PV.int PV.int) pair1), (PV.int places2)]) (p6_two_places pair1 places2) := by
  rw [F_at h]
  refine run_simF (d := n6) (e := [(some ((eT2 PV.int PV.int) pair1)), (some (PV.int places2)), none]) rfl ?_
  refine c_set ?_
  refine x_call ?_
  refine z_ok (a_e (e_q (q_rd (l_var rfl) rfl)) (fz_to (e := (eT2 PV.int PV.int)) pair1) a_nil) ?_
  refine z_call (e2 := [(some ((eT2 PV.int PV.int) pair1)), (some (PV.int places2)), none]) (E3 := fun a => [(some ((eT2 PV.int PV.int) pair1)), (some (PV.int places2)), none]) rfl rfl (p5_row_of_1_ok (n := 6) (by decide) pair1) (fun _ => rfl) (fun _ _ => ⟨(), rfl⟩) ?_
  intro v3
  refine z_fz (fz_to (e := (eT2 PV.int PV.int)) v3) ?_
  refine c_ite ?_
  refine z_ok (t_cmp (b_e (e_q (q_lenT (l_var rfl)))) (b_e (e_q rfl)) (c_ne (e := PV.int) (a := (2 : Int)) (b := (2 : Int)) (by decide))) ?_
  refine z_ifs ?_ ?_
  · exact c_raise ⟨(), rfl⟩
  refine c_ret ?_
  refine x_tup ?_
  refine xs_cons ?_
  refine x_call ?_
  refine z_ok (a_e (e_q (q_rd (l_ixT (l_var rfl) rfl rfl) rfl)) (fz_to (e := PV.int) v3.1) (a_e (e_q rfl) (fz_to (e := PV.int) (0 : Int)) (a_e (e_bin (b_p (l_var rfl)) (b_e (e_q rfl)) rfl) (fz_to (e := PV.int) (places2 - (1 : Int))) a_nil))) ?_
  refine z_call (e2 := [(some ((eT2 PV.int PV.int) pair1)), (some (PV.int places2)), (some ((eT2 PV.int PV.int) v3))]) (E3 := fun a => [(some ((eT2 PV.int PV.int) pair1)), (some (PV.int places2)), (some ((eT2 PV.int PV.int) v3))]) rfl rfl (p4_whole_ok (n := 6) (by decide) v3.1 (0 : Int) (places2 - (1 : Int))) (fun _ => rfl) (fun _ _ => ⟨(), rfl⟩) ?_
  intro v4
  refine xs_cons ?_
  refine x_call ?_
  refine z_ok (a_e (e_q (q_rd (l_ixT (l_var rfl) rfl rfl) rfl)) (fz_to (e := PV.int) v3.2) (a_e (e_q rfl) (fz_to (e := PV.int) (0 : Int)) (a_e (e_bin (b_p (l_var rfl)) (b_e (e_q rfl)) rfl) (fz_to (e := PV.int) (places2 - (1 : Int))) a_nil))) ?_
  refine z_call (e2 := [(some ((eT2 PV.int PV.int) pair1)), (some (PV.int places2)), (some ((eT2 PV.int PV.int) v3))]) (E3 := fun a => [(some ((eT2 PV.int PV.int) pair1)), (some (PV.int places2)), (some ((eT2 PV.int PV.int) v3))]) rfl rfl (p4_whole_ok (n := 6) (by decide) v3.2 (0 : Int) (places2 - (1 : Int))) (fun _ => rfl) (fun _ _ => ⟨(), rfl⟩) ?_
  intro v5
  refine xs_nil ?_
  refine z_ok (r_tup rfl rfl) ?_
  exact z_rt ⟨rfl, rfl⟩
def p7_place_pairs_c1 (places2 : Int) : (Int × Int) → M (Flow Unit Empty (Int × Int)) := fun pair4 =>
 (M.nox (p6_two_places pair4 places2)).bind fun v5 =>
 .ok (.rt v5)
def p7_place_pairs_b (rows1 : (List (Int × Int))) (places2 : Int) : M (Flow (List (Int × Int)) Empty (List (Int × Int))) :=
 (p5_row_of rows1).bind fun v3 =>
 (gd (sOk v3.length)).bind fun _ => (lcF (p7_place_pairs_c1 places2) v3).bind fun l6 =>
 .ok (.rt l6)
def p7_place_pairs (rows1 : (List (Int × Int))) (places2 : Int) : M (List (Int × Int)) := toM (p7_place_pairs_b rows1 places2)
theorem p7_place_pairs_ok {n : Nat} (h : 7 < n) (rows1 : (List (Int × Int))) (places2 : Int) : CF (fun a => (eV (eT2 PV.int PV.int)) a) (fun a : (List (Int × Int)) => [some ((eL false (eT2 PV.int PV.int)) rows1), some (PV.int places2)]) (fun z : Unit => [some ((eL false (eT2 PV.int PV.int)) rows1), some (PV.int places2)]) (F n 7 [((eL false (eT2 PV.int PV.int)) rows1), (PV.int places2)]) (p7_place_pairs rows1 places2) := by
  rw [F_at h]
  refine run_simF (d := n7) (e := [(some ((eL false (eT2 PV.int PV.int)) rows1)), (some (PV.int places2)), none, none]) rfl ?_
  refine c_set ?_
  refine x_call ?_
  refine z_ok (a_e (e_q (q_rd (l_var rfl) rfl)) (fz_to (e := (eL false (eT2 PV.int PV.int))) rows1) a_nil) ?_
  refine z_call (e2 := [(some ((eL false (eT2 PV.int PV.int)) rows1)), (some (PV.int places2)), none, none]) (E3 := fun a => [(some ((eL false (eT2 PV.int PV.int)) rows1)), (some (PV.int places2)), none, none]) rfl rfl (p5_row_of_ok (n := 7) (by decide) rows1) (fun _ => rfl) (fun _ _ => ⟨(), rfl⟩) ?_
  intro v3
  refine z_fz (fz_to (e := (eV (eT2 PV.int PV.int))) v3) ?_
  refine c_ret ?_
  refine x_f1 ?_
  refine x_Be ?_
  refine x_lc ?_
  refine x_ie ?_
  refine z_ok (e_q (q_rd (l_var rfl) rfl)) ?_
  refine z_of w_V ?_
  refine z_lc (f := (p7_place_pairs_c1 places2)) (e' := (eT2 PV.int PV.int)) rfl ?_ ?_
  · intro pair4
    refine ⟨_, (tp_one (e := (eT2 PV.int PV.int))), ?_⟩
    refine z_ok ta_nil ?_
    refine z_ifT ?_
    refine x_call ?_
    refine z_ok (a_e (e_q (q_rd (l_var rfl) rfl)) (fz_to (e := (eT2 PV.int PV.int)) pair4) (a_e (e_q (q_rd (l_var rfl) rfl)) (fz_to (e := PV.int) places2) a_nil)) ?_
    refine z_callN (e2 := [(some ((eL false (eT2 PV.int PV.int)) rows1)), (some (PV.int places2)), (some ((eV (eT2 PV.int PV.int)) v3)), (some ((eT2 PV.int PV.int) pair4))]) (E3 := fun a => [(some ((eL false (eT2 PV.int PV.int)) rows1)), (some (PV.int places2)), (some ((eV (eT2 PV.int PV.int)) v3)), (some ((eT2 PV.int PV.int) pair4))]) rfl rfl (p6_two_places_ok (n := 7) (by decide) pair4 places2) (fun _ => rfl) ?_
    intro v5
    exact z_rt ⟨rfl, rfl⟩
  intro l6
  refine z_of f_tupL ?_
  exact z_rt ⟨rfl, rfl⟩
def p8_Web___init_b (places1 : Int) (panels2 : (List (Int × Int))) (ties3 : (List (Int × Int))) (near4 : Int) (far5 : Int) : M (Flow (Unit × Web) Empty (Unit × Web)) :=
 (p4_whole places1 (2 : Int) (40 : Int)).bind fun v6 =>
 (p7_place_pairs panels2 places1).bind fun v7 =>
 (p7_place_pairs ties3 places1).bind fun v8 =>
 (p4_whole near4 (0 : Int) (places1 - (1 : Int))).bind fun v9 =>
 (p4_whole far5 (0 : Int) (places1 - (1 : Int))).bind fun v10 =>
 (if (decide (near4 = far5)) then
 (.exc 4)
else
 (if (decide ((60 : Int) < (v7.length : Int))) then
 (.exc 5)
else
 (if (decide ((60 : Int) < (v8.length : Int))) then
 (.exc 5)
else
 .ok (.nx ((), (⟨places1, v7, v8, near4, far5⟩ : Web))))))
def p8_Web___init (places1 : Int) (panels2 : (List (Int × Int))) (ties3 : (List (Int × Int))) (near4 : Int) (far5 : Int) : M (Unit × Web) := toM (p8_Web___init_b places1 panels2 ties3 near4 far5)
theorem p8_Web___init_ok {n : Nat} (h : 8 < n) (places1 : Int) (panels2 : (List (Int × Int))) (ties3 : (List (Int × Int))) (near4 : Int) (far5 : Int) : CF (fun _ => PV.non) (fun a : (Unit × Web) => [some ((eWeb true) a.2), some (PV.int places1), some ((eL false (eT2 PV.int PV.int)) panels2), some ((eL false (eT2 PV.int PV.int)) ties3), some (PV.int near4), some (PV.int far5)]) (fun z : Option PV => [z, some (PV.int places1), some ((eL false (eT2 PV.int PV.int)) panels2), some ((eL false (eT2 PV.int PV.int)) ties3), some (PV.int near4), some (PV.int far5)]) (F n 8 [(PV.ins true 6 []), (PV.int places1), ((eL false (eT2 PV.int PV.int)) panels2), ((eL false (eT2 PV.int PV.int)) ties3), (PV.int near4), (PV.int far5)]) (p8_Web___init places1 panels2 ties3 near4 far5) := by
  rw [F_at h]
  refine run_simF (d := n8) (e := [(some (PV.ins true 6 [])), (some (PV.int places1)), (some ((eL false (eT2 PV.int PV.int)) panels2)), (some ((eL false (eT2 PV.int PV.int)) ties3)), (some (PV.int near4)), (some (PV.int far5)), none, none]) rfl ?_
  refine c_expr ?_
  refine x_call ?_
  refine z_ok (a_e (e_q (q_rd (l_var rfl) rfl)) (fz_to (e := PV.int) places1) (a_e (e_q rfl) (fz_to (e := PV.int) (2 : Int)) (a_e (e_q (gl_0 _ _)) (fz_to (e := PV.int) (40 : Int)) a_nil))) ?_
  refine z_call (e2 := [(some (PV.ins true 6 [])), (some (PV.int places1)), (some ((eL false (eT2 PV.int PV.int)) panels2)), (some ((eL false (eT2 PV.int PV.int)) ties3)), (some (PV.int near4)), (some (PV.int far5)), none, none]) (E3 := fun a => [(some (PV.ins true 6 [])), (some (PV.int places1)), (some ((eL false (eT2 PV.int PV.int)) panels2)), (some ((eL false (eT2 PV.int PV.int)) ties3)), (some (PV.int near4)), (some (PV.int far5)), none, none]) rfl rfl (p4_whole_ok (n := 8) (by decide) places1 (2 : Int) (40 : Int)) (fun _ => rfl) (fun _ _ => ⟨(some (PV.ins true 6 [])), rfl⟩) ?_
  intro v6
  refine c_set ?_
  refine x_call ?_
  refine z_ok (a_e (e_q (q_rd (l_var rfl) rfl)) (fz_to (e := (eL false (eT2 PV.int PV.int))) panels2) (a_e (e_q (q_rd (l_var rfl) rfl)) (fz_to (e := PV.int) places1) a_nil)) ?_
  refine z_call (e2 := [(some (PV.ins true 6 [])), (some (PV.int places1)), (some ((eL false (eT2 PV.int PV.int)) panels2)), (some ((eL false (eT2 PV.int PV.int)) ties3)), (some (PV.int near4)), (some (PV.int far5)), none, none]) (E3 := fun a => [(some (PV.ins true 6 [])), (some (PV.int places1)), (some ((eL false (eT2 PV.int PV.int)) panels2)), (some ((eL false (eT2 PV.int PV.int)) ties3)), (some (PV.int near4)), (some (PV.int far5)), none, none]) rfl rfl (p7_place_pairs_ok (n := 8) (by decide) panels2 places1) (fun _ => rfl) (fun _ _ => ⟨(some (PV.ins true 6 [])), rfl⟩) ?_
  intro v7
  refine z_fz (fz_to (e := (eV (eT2 PV.int PV.int))) v7) ?_
  refine c_set ?_
  refine x_call ?_
  refine z_ok (a_e (e_q (q_rd (l_var rfl) rfl)) (fz_to (e := (eL false (eT2 PV.int PV.int))) ties3) (a_e (e_q (q_rd (l_var rfl) rfl)) (fz_to (e := PV.int) places1) a_nil)) ?_
  refine z_call (e2 := [(some (PV.ins true 6 [])), (some (PV.int places1)), (some ((eL false (eT2 PV.int PV.int)) panels2)), (some ((eL false (eT2 PV.int PV.int)) ties3)), (some (PV.int near4)), (some (PV.int far5)), (some ((eV (eT2 PV.int PV.int)) v7)), none]) (E3 := fun a => [(some (PV.ins true 6 [])), (some (PV.int places1)), (some ((eL false (eT2 PV.int PV.int)) panels2)), (some ((eL false (eT2 PV.int PV.int)) ties3)), (some (PV.int near4)), (some (PV.int far5)), (some ((eV (eT2 PV.int PV.int)) v7)), none]) rfl rfl (p7_place_pairs_ok (n := 8) (by decide) ties3 places1) (fun _ => rfl) (fun _ _ => ⟨(some (PV.ins true 6 [])), rfl⟩) ?_
  intro v8
  refine z_fz (fz_to (e := (eV (eT2 PV.int PV.int))) v8) ?_
  refine c_expr ?_
  refine x_call ?_
  refine z_ok (a_e (e_q (q_rd (l_var rfl) rfl)) (fz_to (e := PV.int) near4) (a_e (e_q rfl) (fz_to (e := PV.int) (0 : Int)) (a_e (e_bin (b_p (l_var rfl)) (b_e (e_q rfl)) rfl) (fz_to (e := PV.int) (places1 - (1 : Int))) a_nil))) ?_
  refine z_call (e2 := [(some (PV.ins true 6 [])), (some (PV.int places1)), (some ((eL false (eT2 PV.int PV.int)) panels2)), (some ((eL false (eT2 PV.int PV.int)) ties3)), (some (PV.int near4)), (some (PV.int far5)), (some ((eV (eT2 PV.int PV.int)) v7)), (some ((eV (eT2 PV.int PV.int)) v8))]) (E3 := fun a => [(some (PV.ins true 6 [])), (some (PV.int places1)), (some ((eL false (eT2 PV.int PV.int)) panels2)), (some ((eL false (eT2 PV.int PV.int)) ties3)), (some (PV.int near4)), (some (PV.int far5)), (some ((eV (eT2 PV.int PV.int)) v7)), (some ((eV (eT2 PV.int PV.int)) v8))]) rfl rfl (p4_whole_ok (n := 8) (by decide) near4 (0 : Int) (places1 - (1 : Int))) (fun _ => rfl) (fun _ _ => ⟨(some (PV.ins true 6 [])), rfl⟩) ?_
  intro v9
  refine c_expr ?_
  refine x_call ?_
  refine z_ok (a_e (e_q (q_rd (l_var rfl) rfl)) (fz_to (e := PV.int) far5) (a_e (e_q rfl) (fz_to (e := PV.int) (0 : Int)) (a_e (e_bin (b_p (l_var rfl)) (b_e (e_q rfl)) rfl) (fz_to (e := PV.int) (places1 - (1 : Int))) a_nil))) ?_
  refine z_call (e2 := [(some (PV.ins true 6 [])), (some (PV.int places1)), (some ((eL false (eT2 PV.int PV.int)) panels2)), (some ((eL false (eT2 PV.int PV.int)) ties3)), (some (PV.int near4)), (some (PV.int far5)), (some ((eV (eT2 PV.int PV.int)) v7)), (some ((eV (eT2 PV.int PV.int)) v8))]) (E3 := fun a => [(some (PV.ins true 6 [])), (some (PV.int places1)), (some ((eL false (eT2 PV.int PV.int)) panels2)), (some ((eL false (eT2 PV.int PV.int)) ties3)), (some (PV.int near4)), (some (PV.int far5)), (some ((eV (eT2 PV.int PV.int)) v7)), (some ((eV (eT2 PV.int PV.int)) v8))]) rfl rfl (p4_whole_ok (n := 8) (by decide) far5 (0 : Int) (places1 - (1 : Int))) (fun _ => rfl) (fun _ _ => ⟨(some (PV.ins true 6 [])), rfl⟩) ?_
  intro v10
  refine c_ite ?_
  refine z_ok (t_cmp (b_p (l_var rfl)) (b_p (l_var rfl)) (c_eq (e := PV.int) (a := near4) (b := far5) (by decide))) ?_
  refine z_ifs ?_ ?_
  · exact c_raise ⟨(some (PV.ins true 6 [])), rfl⟩
  refine c_ite ?_
  refine z_ok (t_cmp (b_e (e_q (q_lenV (l_var rfl)))) (b_e (e_q (gl_1 _ _))) rfl) ?_
  refine z_ifs ?_ ?_
  · exact c_raise ⟨(some (PV.ins true 6 [])), rfl⟩
  refine c_ite ?_
  refine z_ok (t_cmp (b_e (e_q (q_lenV (l_var rfl)))) (b_e (e_q (gl_2 _ _))) rfl) ?_
  refine z_ifs ?_ ?_
  · exact c_raise ⟨(some (PV.ins true 6 [])), rfl⟩
  refine c_setF ?_
  refine z_ok (e_q (q_rd (l_var rfl) rfl)) ?_
  refine z_on (j_setF rfl fx_6_0 rfl) ?_
  refine c_setF ?_
  refine z_ok (e_q (q_rd (l_var rfl) rfl)) ?_
  refine z_on (j_setF rfl fx_6_1 rfl) ?_
  refine c_setF ?_
  refine z_ok (e_q (q_rd (l_var rfl) rfl)) ?_
  refine z_on (j_setF rfl fx_6_2 rfl) ?_
  refine c_setF ?_
  refine z_ok (e_q (q_rd (l_var rfl) rfl)) ?_
  refine z_on (j_setF rfl fx_6_3 rfl) ?_
  refine c_setF ?_
  refine z_ok (e_q (q_rd (l_var rfl) rfl)) ?_
  refine z_on (j_setF rfl fx_6_4 rfl) ?_
  exact c_nil ⟨rfl, rfl⟩
def p9_law_given_b (web1 : (Int × (List (Int × Int)) × (List (Int × Int)) × Int × Int)) : M (Flow Web Empty Web) :=
 (p8_Web___init web1.1 web1.2.1 web1.2.2.1 web1.2.2.2.1 web1.2.2.2.2).bind fun (_, o2) =>
 .ok (.rt o2)
def p9_law_given (web1 : (Int × (List (Int × Int)) × (List (Int × Int)) × Int × Int)) : M Web := toM (p9_law_given_b web1)
theorem p9_law_given_ok {n : Nat} (h : 9 < n) (web1 : (Int × (List (Int × Int)) × (List (Int × Int)) × Int × Int)) : CF (fun a => (eWeb true) a) (fun a : Web => [some ((eH5 false PV.int (eL false (eT2 PV.int PV.int)) (eL false (eT2 PV.int PV.int)) PV.int PV.int) web1)]) (fun z : Unit => [some ((eH5 false PV.int (eL false (eT2 PV.int PV.int)) (eL false (eT2 PV.int PV.int)) PV.int PV.int) web1)]) (F n 9 [((eH5 false PV.int (eL false (eT2 PV.int PV.int)) (eL false (eT2 PV.int PV.int)) PV.int PV.int) web1)]) (p9_law_given web1) := by
  rw [F_at h]
  refine run_simF (d := n9) (e := [(some ((eH5 false PV.int (eL false (eT2 PV.int PV.int)) (eL false (eT2 PV.int PV.int)) PV.int PV.int) web1))]) rfl ?_
  refine c_ret ?_
  refine x_make ?_
  refine z_ok (a_e (e_q (q_rd (l_ixH (l_var rfl) rfl rfl) rfl)) (fz_to (e := PV.int) web1.1) (a_e (e_f1 (b_p (l_ixH (l_var rfl) rfl rfl)) f_listL) (fz_to (e := (eL true (eT2 PV.int PV.int))) web1.2.1) (a_e (e_f1 (b_p (l_ixH (l_var rfl) rfl rfl)) f_listL) (fz_to (e := (eL true (eT2 PV.int PV.int))) web1.2.2.1) a_nil))) ?_
  refine z_ok (a_e (e_q (q_rd (l_ixH (l_var rfl) rfl rfl) rfl)) (fz_to (e := PV.int) web1.2.2.2.1) (a_e (e_q (q_rd (l_ixH (l_var rfl) rfl rfl) rfl)) (fz_to (e := PV.int) web1.2.2.2.2) a_nil)) ?_
  refine z_make (e2 := [(some ((eH5 false PV.int (eL false (eT2 PV.int PV.int)) (eL false (eT2 PV.int PV.int)) PV.int PV.int) web1))]) (E3 := fun _ => [(some ((eH5 false PV.int (eL false (eT2 PV.int PV.int)) (eL false (eT2 PV.int PV.int)) PV.int PV.int) web1))]) rfl rfl rfl (p8_Web___init_ok (n := 9) (by decide) web1.1 web1.2.1 web1.2.2.1 web1.2.2.2.1 web1.2.2.2.2) (fun _ => rfl) (fun _ => rfl) (fun _ => rfl) (fun _ => rfl) (fun _ _ => ⟨(), rfl⟩) ?_
  rintro ⟨_, o2⟩
  exact z_rt ⟨rfl, rfl⟩
def p10_law_reach_c1 (start2 : Int) : Int → M (Flow Unit Empty Bool) := fun place4 =>
 .ok (.rt (decide (place4 = start2)))
def p10_law_reach_f3  : (Int × Int) → (List Bool) → M (Flow (List Bool) (List Bool) (List Bool)) := fun (tail17, head18) seen14 =>
 (M.of (atI seen14 tail17)).bind fun y21 =>
 (if y21 then
 (M.of (setI seen14 head18 true)).bind fun seen23 =>
 .ok (.nx seen23)
else
 .ok (.nx seen14))
def p10_law_reach_f4  : (Int × Int) → (List Bool) → M (Flow (List Bool) (List Bool) (List Bool)) := fun (one31, two32) seen28 =>
 (toM (
(M.of (atI seen28 one31)).bind fun y39 =>
 (if y39 then
 .ok (.rt true)
else
 (M.of (atI seen28 two32)).bind fun y41 =>
 (if y41 then
 .ok (.rt true)
else
 .ok (.rt false))))).bind fun c43 =>
 (if c43 then
 (M.of (setI seen28 one31 true)).bind fun seen44 =>
 (M.of (setI seen44 two32 true)).bind fun seen46 =>
 .ok (.nx seen46)
else
 .ok (.nx seen28))
def p10_law_reach_f2 (web1 : (Int × (List (Int × Int)) × (List (Int × Int)) × Int × Int)) : Int → (List Bool) → M (Flow (List Bool) (List Bool) (List Bool)) := fun k13 seen7 =>
 (M.andThen (forF (p10_law_reach_f3) web1.2.1 seen7) fun seen25 =>
 (M.andThen (forF (p10_law_reach_f4) web1.2.2.1 seen25) fun seen48 =>
 .ok (.nx seen48)))
def p10_law_reach_b (web1 : (Int × (List (Int × Int)) × (List (Int × Int)) × Int × Int)) (start2 : Int) : M (Flow (List Bool) Empty (List Bool)) :=
 (gd (rgOk web1.1)).bind fun _ =>
 (gd (sOk (rangeI 0 web1.1).length)).bind fun _ => (lcF (p10_law_reach_c1 start2) (rangeI 0 web1.1)).bind fun l5 =>
 (gd (rgOk web1.1)).bind fun _ =>
 (M.andThen (forF (p10_law_reach_f2 web1) (rangeI 0 web1.1) l5) fun seen51 =>
 .ok (.rt seen51))
def p10_law_reach (web1 : (Int × (List (Int × Int)) × (List (Int × Int)) × Int × Int)) (start2 : Int) : M (List Bool) := toM (p10_law_reach_b web1 start2)
theorem p10_law_reach_ok {n : Nat} (h : 10 < n) (web1 : (Int × (List (Int × Int)) × (List (Int × Int)) × Int × Int)) (start2 : Int) : CF (fun a => (eL true PV.bl) a) (fun a : (List Bool) => [some ((eH5 false PV.int (eL false (eT2 PV.int PV.int)) (eL false (eT2 PV.int PV.int)) PV.int PV.int) web1), some (PV.int start2)]) (fun z : Unit => [some ((eH5 false PV.int (eL false (eT2 PV.int PV.int)) (eL false (eT2 PV.int PV.int)) PV.int PV.int) web1), some (PV.int start2)]) (F n 10 [((eH5 false PV.int (eL false (eT2 PV.int PV.int)) (eL false (eT2 PV.int PV.int)) PV.int PV.int) web1), (PV.int start2)]) (p10_law_reach web1 start2) := by
  rw [F_at h]
  refine run_simF (d := n10) (e := [(some ((eH5 false PV.int (eL false (eT2 PV.int PV.int)) (eL false (eT2 PV.int PV.int)) PV.int PV.int) web1)), (some (PV.int start2)), none, none, none, none, none, none, none]) rfl ?_
  refine c_set ?_
  refine x_lc ?_
  refine x_r1 ?_
  refine z_ok (e_q (q_rd (l_ixH (l_var rfl) rfl rfl) rfl)) ?_
  refine g_gd ?_
  intro h3
  refine z_of (w_r1 h3) ?_
  refine z_lc (f := (p10_law_reach_c1 start2)) (e' := PV.bl) rfl ?_ ?_
  · intro place4
    refine ⟨_, (tp_one (e := PV.int)), ?_⟩
    refine z_ok ta_nil ?_
    refine z_ifT ?_
    refine z_ok (e_cmp (b_p (l_var rfl)) (b_p (l_var rfl)) (c_eq (e := PV.int) (a := place4) (b := start2) (by decide))) ?_
    exact z_rt ⟨rfl, rfl⟩
  intro l5
  refine z_fz (fz_no _) ?_
  refine c_for ?_
  refine x_r1 ?_
  refine z_ok (e_q (q_rd (l_ixH (l_var rfl) rfl rfl) rfl)) ?_
  refine g_gd ?_
  intro h6
  refine z_of (w_r1 h6) ?_
  refine z_for (E := (fun (s : (List Bool)) (d : Option PV × Option PV × Option PV × Option PV × Option PV) => [(some ((eH5 false PV.int (eL false (eT2 PV.int PV.int)) (eL false (eT2 PV.int PV.int)) PV.int PV.int) web1)), (some (PV.int start2)), (some ((eL true PV.bl) s)), d.1, d.2.1, d.2.2.1, d.2.2.2.1, d.2.2.2.2, none])) (f := (p10_law_reach_f2 web1)) (s0 := l5) (none, none, none, none, none) rfl ?_ ?_
  · rintro k13 seen7 ⟨d8, d9, d10, d11, d12⟩
    refine ⟨_, (tp_one (e := PV.int)), ?_⟩
    refine c_for ?_
    refine x_ie ?_
    refine z_ok (e_q (q_rd (l_ixH (l_var rfl) rfl rfl) rfl)) ?_
    refine z_of w_L ?_
    refine z_for (E := (fun (s : (List Bool)) (d : Option PV × Option PV) => [(some ((eH5 false PV.int (eL false (eT2 PV.int PV.int)) (eL false (eT2 PV.int PV.int)) PV.int PV.int) web1)), (some (PV.int start2)), (some ((eL true PV.bl) s)), (some (PV.int k13)), d.1, d.2, d11, d12, none])) (f := (p10_law_reach_f3)) (s0 := seen7) (d9, d10) rfl ?_ ?_
    · rintro ⟨tail17, head18⟩ seen14 ⟨d15, d16⟩
      refine ⟨_, (tp_tup rfl), ?_⟩
      refine c_ite ?_
      refine g_of ?_
      intro y21 h22
      refine z_ok (t_v (b_p (l_ixL (l_var rfl) (q_rd (l_var rfl) rfl) h22)) rfl) ?_
      refine z_ifs ?_ ?_
      · refine c_setIx ?_
        refine z_ok (e_q rfl) ?_
        refine g_of ?_
        intro seen23 h24
        refine z_on (j_setI (en := PV.bl) (y := true) rfl (q_rd (l_var rfl) rfl) h24) ?_
        exact c_nil ⟨((some (PV.int tail17)), (some (PV.int head18))), rfl⟩
      exact c_nil ⟨((some (PV.int tail17)), (some (PV.int head18))), rfl⟩
    rintro seen25 ⟨d26, d27⟩
    refine c_for ?_
    refine x_ie ?_
    refine z_ok (e_q (q_rd (l_ixH (l_var rfl) rfl rfl) rfl)) ?_
    refine z_of w_L ?_
    refine z_for (E := (fun (s : (List Bool)) (d : Option PV × Option PV) => [(some ((eH5 false PV.int (eL false (eT2 PV.int PV.int)) (eL false (eT2 PV.int PV.int)) PV.int PV.int) web1)), (some (PV.int start2)), (some ((eL true PV.bl) s)), (some (PV.int k13)), d26, d27, d.1, d.2, none])) (f := (p10_law_reach_f4)) (s0 := seen25) (d11, d12) rfl ?_ ?_
    · rintro ⟨one31, two32⟩ seen28 ⟨d29, d30⟩
      refine ⟨_, (tp_tup rfl), ?_⟩
      refine c_ite ?_
      refine x_bindT (E := [(some ((eH5 false PV.int (eL false (eT2 PV.int PV.int)) (eL false (eT2 PV.int PV.int)) PV.int PV.int) web1)), (some (PV.int start2)), (some ((eL true PV.bl) seen28)), (some (PV.int k13)), d26, d27, (some (PV.int one31)), (some (PV.int two32)), none]) ?_ ?_
      · refine x_tor ?_
        refine xto_cons ?_
        refine g_of ?_
        intro y39 h40
        refine z_ok (t_v (b_p (l_ixL (l_var rfl) (q_rd (l_var rfl) rfl) h40)) rfl) ?_
        refine z_ifb ?_ ?_
        · refine z_ok rfl ?_
          exact z_rt ⟨rfl, rfl⟩
        refine xto_cons ?_
        refine g_of ?_
        intro y41 h42
        refine z_ok (t_v (b_p (l_ixL (l_var rfl) (q_rd (l_var rfl) rfl) h42)) rfl) ?_
        refine z_ifb ?_ ?_
        · refine z_ok rfl ?_
          exact z_rt ⟨rfl, rfl⟩
        refine xto_nil ?_
        exact z_rt ⟨rfl, rfl⟩
      intro c43
      refine z_ifs ?_ ?_
      · refine c_setIx ?_
        refine z_ok (e_q rfl) ?_
        refine g_of ?_
        intro seen44 h45
        refine z_on (j_setI (en := PV.bl) (y := true) rfl (q_rd (l_var rfl) rfl) h45) ?_
        refine c_setIx ?_
        refine z_ok (e_q rfl) ?_
        refine g_of ?_
        intro seen46 h47
        refine z_on (j_setI (en := PV.bl) (y := true) rfl (q_rd (l_var rfl) rfl) h47) ?_
        exact c_nil ⟨((some (PV.int one31)), (some (PV.int two32))), rfl⟩
      exact c_nil ⟨((some (PV.int one31)), (some (PV.int two32))), rfl⟩
    rintro seen48 ⟨d49, d50⟩
    exact c_nil ⟨((some (PV.int k13)), d26, d27, d49, d50), rfl⟩
  rintro seen51 ⟨d52, d53, d54, d55, d56⟩
  refine c_ret ?_
  refine z_ok (e_mv rfl) ?_
  exact z_rt ⟨rfl, rfl⟩
def p11_law_reaches_c1 (web1 : (Int × (List (Int × Int)) × (List (Int × Int)) × Int × Int)) : Int → M (Flow Unit Empty (List Bool)) := fun place3 =>
 (M.nox (p10_law_reach web1 place3)).bind fun v4 =>
 .ok (.rt v4)
def p11_law_reaches_b (web1 : (Int × (List (Int × Int)) × (List (Int × Int)) × Int × Int)) : M (Flow (List (List Bool)) Empty (List (List Bool))) :=
 (gd (rgOk web1.1)).bind fun _ =>
 (gd (sOk (rangeI 0 web1.1).length)).bind fun _ => (lcF (p11_law_reaches_c1 web1) (rangeI 0 web1.1)).bind fun l5 =>
 .ok (.rt l5)
def p11_law_reaches (web1 : (Int × (List (Int × Int)) × (List (Int × Int)) × Int × Int)) : M (List (List Bool)) := toM (p11_law_reaches_b web1)
theorem p11_law_reaches_ok {n : Nat} (h : 11 < n) (web1 : (Int × (List (Int × Int)) × (List (Int × Int)) × Int × Int)) : CF (fun a => (eL true (eL true PV.bl)) a) (fun a : (List (List Bool)) => [some ((eH5 false PV.int (eL false (eT2 PV.int PV.int)) (eL false (eT2 PV.int PV.int)) PV.int PV.int) web1)]) (fun z : Unit => [some ((eH5 false PV.int (eL false (eT2 PV.int PV.int)) (eL false (eT2 PV.int PV.int)) PV.int PV.int) web1)]) (F n 11 [((eH5 false PV.int (eL false (eT2 PV.int PV.int)) (eL false (eT2 PV.int PV.int)) PV.int PV.int) web1)]) (p11_law_reaches web1) := by
  rw [F_at h]
  refine run_simF (d := n11) (e := [(some ((eH5 false PV.int (eL false (eT2 PV.int PV.int)) (eL false (eT2 PV.int PV.int)) PV.int PV.int) web1)), none]) rfl ?_
  refine c_ret ?_
  refine x_lc ?_
  refine x_r1 ?_
  refine z_ok (e_q (q_rd (l_ixH (l_var rfl) rfl rfl) rfl)) ?_
  refine g_gd ?_
  intro h2
  refine z_of (w_r1 h2) ?_
  refine z_lc (f := (p11_law_reaches_c1 web1)) (e' := (eL true PV.bl)) rfl ?_ ?_
  · intro place3
    refine ⟨_, (tp_one (e := PV.int)), ?_⟩
    refine z_ok ta_nil ?_
    refine z_ifT ?_
    refine x_call ?_
    refine z_ok (a_e (e_q (q_rd (l_var rfl) rfl)) (fz_to (e := (eH5 false PV.int (eL false (eT2 PV.int PV.int)) (eL false (eT2 PV.int PV.int)) PV.int PV.int)) web1) (a_e (e_q (q_rd (l_var rfl) rfl)) (fz_to (e := PV.int) place3) a_nil)) ?_
    refine z_callN (e2 := [(some ((eH5 false PV.int (eL false (eT2 PV.int PV.int)) (eL false (eT2 PV.int PV.int)) PV.int PV.int) web1)), (some (PV.int place3))]) (E3 := fun a => [(some ((eH5 false PV.int (eL false (eT2 PV.int PV.int)) (eL false (eT2 PV.int PV.int)) PV.int PV.int) web1)), (some (PV.int place3))]) rfl rfl (p10_law_reach_ok (n := 11) (by decide) web1 place3) (fun _ => rfl) ?_
    intro v4
    exact z_rt ⟨rfl, rfl⟩
  intro l5
  exact z_rt ⟨rfl, rfl⟩
def p16_move_lists_c1  : Int → M (Flow Unit Empty (List Int)) := fun x3 =>
 .ok (.rt ([] : List Int))
def p16_move_lists_f2  : (Int × Int) → (List (List Int)) → M (Flow (List (List Int)) (List (List Int)) (List (List Int))) := fun (tail8, head9) ahead5 =>
 (M.of (atI ahead5 tail8)).bind fun r10 =>
 (gd (decide (r10.length < sizeLine))).bind fun _ =>
 (M.of (setI ahead5 tail8 (r10 ++ [head9]))).bind fun ahead12 =>
 .ok (.nx ahead12)
def p16_move_lists_f3  : (Int × Int) → (List (List Int)) → M (Flow (List (List Int)) (List (List Int)) (List (List Int))) := fun (a21, b22) ahead18 =>
 (M.of (atI ahead18 a21)).bind fun r23 =>
 (gd (decide (r23.length < sizeLine))).bind fun _ =>
 (M.of (setI ahead18 a21 (r23 ++ [b22]))).bind fun ahead25 =>
 (M.of (atI ahead25 b22)).bind fun r28 =>
 (gd (decide (r28.length < sizeLine))).bind fun _ =>
 (M.of (setI ahead25 b22 (r28 ++ [a21]))).bind fun ahead30 =>
 .ok (.nx ahead30)
def p16_move_lists_b (web1 : Web) : M (Flow (List (List Int)) Empty (List (List Int))) :=
 (gd (rgOk web1.places)).bind fun _ =>
 (gd (sOk (rangeI 0 web1.places).length)).bind fun _ => (lcF (p16_move_lists_c1) (rangeI 0 web1.places)).bind fun l4 =>
 (M.andThen (forF (p16_move_lists_f2) web1.panels l4) fun ahead15 =>
 (M.andThen (forF (p16_move_lists_f3) web1.ties ahead15) fun ahead33 =>
 .ok (.rt ahead33)))
def p16_move_lists (web1 : Web) : M (List (List Int)) := toM (p16_move_lists_b web1)
theorem p16_move_lists_ok {n : Nat} (h : 16 < n) (web1 : Web) : CF (fun a => (eL true (eL true PV.int)) a) (fun a : (List (List Int)) => [some ((eWeb false) web1)]) (fun z : Unit => [some ((eWeb false) web1)]) (F n 16 [((eWeb false) web1)]) (p16_move_lists web1) := by
  rw [F_at h]
  refine run_simF (d := n16) (e := [(some ((eWeb false) web1)), none, none, none, none, none, none]) rfl ?_
  refine c_set ?_
  refine x_lc ?_
  refine x_r1 ?_
  refine z_ok (e_q (q_rd (l_fld (l_var rfl) fx_6_0 rfl) rfl)) ?_
  refine g_gd ?_
  intro h2
  refine z_of (w_r1 h2) ?_
  refine z_lc (f := (p16_move_lists_c1)) (e' := (eL true PV.int)) rfl ?_ ?_
  · intro x3
    refine ⟨_, (tp_one (e := PV.int)), ?_⟩
    refine z_ok ta_nil ?_
    refine z_ifT ?_
    refine z_ok (e_lstL (PV.int) ([] : List Int) s_nil rfl) ?_
    exact z_rt ⟨rfl, rfl⟩
  intro l4
  refine z_fz (fz_no _) ?_
  refine c_for ?_
  refine x_ie ?_
  refine z_ok (e_q (q_rd (l_fld (l_var rfl) fx_6_1 rfl) rfl)) ?_
  refine z_of w_V ?_
  refine z_for (E := (fun (s : (List (List Int))) (d : Option PV × Option PV) => [(some ((eWeb false) web1)), (some ((eL true (eL true PV.int)) s)), d.1, d.2, none, none, none])) (f := (p16_move_lists_f2)) (s0 := l4) (none, none) rfl ?_ ?_
  · rintro ⟨tail8, head9⟩ ahead5 ⟨d6, d7⟩
    refine ⟨_, (tp_tup rfl), ?_⟩
    refine g_of ?_
    intro r10 h11
    refine g_gd ?_
    intro h14
    refine g_of ?_
    intro ahead12 h13
    refine c_appQ2 (en := PV.int) (y := head9) rfl (q_rd (l_var rfl) rfl) (q_rd (l_var rfl) rfl) h11 h13 h14 ?_
    exact c_nil ⟨((some (PV.int tail8)), (some (PV.int head9))), rfl⟩
  rintro ahead15 ⟨d16, d17⟩
  refine c_for ?_
  refine x_ie ?_
  refine z_ok (e_q (q_rd (l_fld (l_var rfl) fx_6_2 rfl) rfl)) ?_
  refine z_of w_V ?_
  refine z_for (E := (fun (s : (List (List Int))) (d : Option PV × Option PV) => [(some ((eWeb false) web1)), (some ((eL true (eL true PV.int)) s)), d16, d17, d.1, d.2, none])) (f := (p16_move_lists_f3)) (s0 := ahead15) (none, none) rfl ?_ ?_
  · rintro ⟨a21, b22⟩ ahead18 ⟨d19, d20⟩
    refine ⟨_, (tp_tup rfl), ?_⟩
    refine g_of ?_
    intro r23 h24
    refine g_gd ?_
    intro h27
    refine g_of ?_
    intro ahead25 h26
    refine c_appQ2 (en := PV.int) (y := b22) rfl (q_rd (l_var rfl) rfl) (q_rd (l_var rfl) rfl) h24 h26 h27 ?_
    refine g_of ?_
    intro r28 h29
    refine g_gd ?_
    intro h32
    refine g_of ?_
    intro ahead30 h31
    refine c_appQ2 (en := PV.int) (y := a21) rfl (q_rd (l_var rfl) rfl) (q_rd (l_var rfl) rfl) h29 h31 h32 ?_
    exact c_nil ⟨((some (PV.int a21)), (some (PV.int b22))), rfl⟩
  rintro ahead33 ⟨d34, d35⟩
  refine c_ret ?_
  refine z_ok (e_mv rfl) ?_
  exact z_rt ⟨rfl, rfl⟩
def p15_reach_row_c1  : (List Int) → M (Flow Unit Empty Bool) := fun x3 =>
 .ok (.rt false)
def p15_reach_row_f4  : Int → ((List Bool) × (List Int)) → M (Flow ((List Bool) × (List Int)) ((List Bool) × (List Int)) (List Bool)) := fun to_18 (found15, waiting16) =>
 (M.of (atI found15 to_18)).bind fun y21 =>
 (if (!y21) then
 (M.of (setI found15 to_18 true)).bind fun found23 =>
 (gd (decide (waiting16.length < sizeLine))).bind fun _ =>
 .ok (.nx (found23, (waiting16 ++ [to_18])))
else
 .ok (.nx (found15, waiting16)))
def p15_reach_row_t2  : ((List Bool) × (List Int)) → M (Flow Bool Empty Bool) := fun (found7, waiting8) =>
 .ok (.rt (decide ((0 : Int) < (waiting8.length : Int))))
def p15_reach_row_w3 (ahead1 : (List (List Int))) : ((List Bool) × (List Int)) → M (Flow ((List Bool) × (List Int)) ((List Bool) × (List Int)) (List Bool)) := fun (found7, waiting8) =>
 (M.of (waiting8.getLast?)).bind fun y11 =>
 (M.of (atI ahead1 y11)).bind fun y13 =>
 (M.andThen (forF (p15_reach_row_f4) y13 (found7, waiting8.dropLast)) fun (found26, waiting27) =>
 .ok (.nx (found26, waiting27)))
def p15_reach_row_b (ahead1 : (List (List Int))) (place2 : Int) : M (Flow (List Bool) Empty (List Bool)) :=
 (gd (sOk ahead1.length)).bind fun _ => (lcF (p15_reach_row_c1) ahead1).bind fun l4 =>
 (M.of (setI l4 place2 true)).bind fun found5 =>
 (M.andThen (whileF (fun s => toM ((p15_reach_row_t2) s)) (p15_reach_row_w3 ahead1) k.fuel (found5, [place2])) fun (found29, waiting30) =>
 .ok (.rt found29))
def p15_reach_row (ahead1 : (List (List Int))) (place2 : Int) : M (List Bool) := toM (p15_reach_row_b ahead1 place2)
theorem p15_reach_row_ok {n : Nat} (h : 15 < n) (ahead1 : (List (List Int))) (place2 : Int) : CF (fun a => (eL true PV.bl) a) (fun a : (List Bool) => [some ((eL false (eL false PV.int)) ahead1), some (PV.int place2)]) (fun z : Unit => [some ((eL false (eL false PV.int)) ahead1), some (PV.int place2)]) (F n 15 [((eL false (eL false PV.int)) ahead1), (PV.int place2)]) (p15_reach_row ahead1 place2) := by
  rw [F_at h]
  refine run_simF (d := n15) (e := [(some ((eL false (eL false PV.int)) ahead1)), (some (PV.int place2)), none, none, none, none, none]) rfl ?_
  refine c_set ?_
  refine x_lc ?_
  refine x_ie ?_
  refine z_ok (e_q (q_rd (l_var rfl) rfl)) ?_
  refine z_of w_L ?_
  refine z_lc (f := (p15_reach_row_c1)) (e' := PV.bl) rfl ?_ ?_
  · intro x3
    refine ⟨_, (tp_one (e := (eL false PV.int))), ?_⟩
    refine z_ok ta_nil ?_
    refine z_ifT ?_
    refine z_ok (e_q rfl) ?_
    exact z_rt ⟨rfl, rfl⟩
  intro l4
  refine z_fz (fz_no _) ?_
  refine c_setIx ?_
  refine z_ok (e_q rfl) ?_
  refine g_of ?_
  intro found5 h6
  refine z_on (j_setI (en := PV.bl) (y := true) rfl (q_rd (l_var rfl) rfl) h6) ?_
  refine c_set ?_
  refine z_ok (e_lstL (PV.int) [place2] (s_cons (e_q (q_rd (l_var rfl) rfl)) s_nil) rfl) ?_
  refine z_fz (fz_no _) ?_
  refine c_while (E := (fun (s : ((List Bool) × (List Int))) (d : Option PV × Option PV) => [(some ((eL false (eL false PV.int)) ahead1)), (some (PV.int place2)), (some ((eL true PV.bl) s.1)), (some ((eL true PV.int) s.2)), d.1, d.2, none])) (tm := (p15_reach_row_t2)) (f := (p15_reach_row_w3 ahead1)) (s0 := (found5, [place2])) (none, none) rfl ?_ ?_ ?_
  · rintro ⟨found7, waiting8⟩ ⟨d9, d10⟩
    refine z_ok (t_cmp (b_e (e_q (q_lenL (l_var rfl)))) (b_e (e_q rfl)) rfl) ?_
    exact z_rt ⟨rfl, rfl⟩
  · rintro ⟨found7, waiting8⟩ ⟨d9, d10⟩
    refine c_set ?_
    refine g_of ?_
    intro y11 h12
    refine z_ok (e_pop rfl h12) ?_
    refine z_fz (fz_to (e := PV.int) y11) ?_
    refine c_for ?_
    refine x_ie ?_
    refine g_of ?_
    intro y13 h14
    refine z_ok (e_q (q_rd (l_ixL (l_var rfl) (q_rd (l_var rfl) rfl) h14) rfl)) ?_
    refine z_of w_L ?_
    refine z_for (E := (fun (s : ((List Bool) × (List Int))) (d : Option PV) => [(some ((eL false (eL false PV.int)) ahead1)), (some (PV.int place2)), (some ((eL true PV.bl) s.1)), (some ((eL true PV.int) s.2)), (some (PV.int y11)), d, none])) (f := (p15_reach_row_f4)) (s0 := (found7, waiting8.dropLast)) d10 rfl ?_ ?_
    · rintro to_18 ⟨found15, waiting16⟩ d17
      refine ⟨_, (tp_one (e := PV.int)), ?_⟩
      refine c_ite ?_
      refine g_of ?_
      intro y21 h22
      refine z_ok (t_not (t_v (b_p (l_ixL (l_var rfl) (q_rd (l_var rfl) rfl) h22)) rfl)) ?_
      refine z_ifs ?_ ?_
      · refine c_setIx ?_
        refine z_ok (e_q rfl) ?_
        refine g_of ?_
        intro found23 h24
        refine z_on (j_setI (en := PV.bl) (y := true) rfl (q_rd (l_var rfl) rfl) h24) ?_
        refine g_gd ?_
        intro h25
        refine c_appQ (en := PV.int) (y := to_18) rfl (q_rd (l_var rfl) rfl) h25 ?_
        exact c_nil ⟨(some (PV.int to_18)), rfl⟩
      exact c_nil ⟨(some (PV.int to_18)), rfl⟩
    rintro ⟨found26, waiting27⟩ d28
    exact c_nil ⟨((some (PV.int y11)), d28), rfl⟩
  rintro ⟨found29, waiting30⟩ ⟨d31, d32⟩
  refine c_ret ?_
  refine z_ok (e_mv rfl) ?_
  exact z_rt ⟨rfl, rfl⟩
def p17_reached_c1 (v5 : (List Bool)) : Int → M (Flow Unit Empty Int) := fun x7 =>
 (M.of (atI v5 x7)).bind fun y10 =>
 (if y10 then
 .ok (.rt x7)
else
 .ok (.nx ()))
def p17_reached_b (web1 : Web) (place2 : Int) : M (Flow (List Int) Empty (List Int)) :=
 (p4_whole place2 (0 : Int) (web1.places - (1 : Int))).bind fun v3 =>
 (p16_move_lists web1).bind fun v4 =>
 (p15_reach_row v4 place2).bind fun v5 =>
 (gd (rgOk web1.places)).bind fun _ =>
 (gd (sOk (rangeI 0 web1.places).length)).bind fun _ => (lcF (p17_reached_c1 v5) (rangeI 0 web1.places)).bind fun l12 =>
 .ok (.rt l12)
def p17_reached (web1 : Web) (place2 : Int) : M (List Int) := toM (p17_reached_b web1 place2)
theorem p17_reached_ok {n : Nat} (h : 17 < n) (web1 : Web) (place2 : Int) : CF (fun a => (eV PV.int) a) (fun a : (List Int) => [some ((eWeb false) web1), some (PV.int place2)]) (fun z : Unit => [some ((eWeb false) web1), some (PV.int place2)]) (F n 17 [((eWeb false) web1), (PV.int place2)]) (p17_reached web1 place2) := by
  rw [F_at h]
  refine run_simF (d := n17) (e := [(some ((eWeb false) web1)), (some (PV.int place2)), none, none]) rfl ?_
  refine c_expr ?_
  refine x_call ?_
  refine z_ok (a_e (e_q (q_rd (l_var rfl) rfl)) (fz_to (e := PV.int) place2) (a_e (e_q rfl) (fz_to (e := PV.int) (0 : Int)) (a_e (e_bin (b_p (l_fld (l_var rfl) fx_6_0 rfl)) (b_e (e_q rfl)) rfl) (fz_to (e := PV.int) (web1.places - (1 : Int))) a_nil))) ?_
  refine z_call (e2 := [(some ((eWeb false) web1)), (some (PV.int place2)), none, none]) (E3 := fun a => [(some ((eWeb false) web1)), (some (PV.int place2)), none, none]) rfl rfl (p4_whole_ok (n := 17) (by decide) place2 (0 : Int) (web1.places - (1 : Int))) (fun _ => rfl) (fun _ _ => ⟨(), rfl⟩) ?_
  intro v3
  refine c_set ?_
  refine x_call ?_
  refine xv_e ?_
  refine x_call ?_
  refine z_ok (a_e (e_q (q_rd (l_var rfl) rfl)) (fz_to (e := (eWeb false)) web1) a_nil) ?_
  refine z_call (e2 := [(some ((eWeb false) web1)), (some (PV.int place2)), none, none]) (E3 := fun a => [(some ((eWeb false) web1)), (some (PV.int place2)), none, none]) rfl rfl (p16_move_lists_ok (n := 17) (by decide) web1) (fun _ => rfl) (fun _ _ => ⟨(), rfl⟩) ?_
  intro v4
  refine xv_e ?_
  refine z_ok (e_q (q_rd (l_var rfl) rfl)) ?_
  refine xv_nil ?_
  refine z_call (e2 := [(some ((eWeb false) web1)), (some (PV.int place2)), none, none]) (E3 := fun a => [(some ((eWeb false) web1)), (some (PV.int place2)), none, none]) rfl (ce (fz_to (e := (eL true (eL true PV.int))) v4) (ce (fz_to (e := PV.int) place2) rfl)) (p15_reach_row_ok (n := 17) (by decide) v4 place2) (fun _ => rfl) (fun _ _ => ⟨(), rfl⟩) ?_
  intro v5
  refine z_fz (fz_to (e := (eL true PV.bl)) v5) ?_
  refine c_ret ?_
  refine x_f1 ?_
  refine x_Be ?_
  refine x_lc ?_
  refine x_r1 ?_
  refine z_ok (e_q (q_rd (l_fld (l_var rfl) fx_6_0 rfl) rfl)) ?_
  refine g_gd ?_
  intro h6
  refine z_of (w_r1 h6) ?_
  refine z_lc (f := (p17_reached_c1 v5)) (e' := PV.int) rfl ?_ ?_
  · intro x7
    refine ⟨_, (tp_one (e := PV.int)), ?_⟩
    refine xta_cons ?_
    refine g_of ?_
    intro y10 h11
    refine z_ok (t_v (b_p (l_ixL (l_var rfl) (q_rd (l_var rfl) rfl) h11)) rfl) ?_
    refine z_ifb ?_ ?_
    · refine xta_nil ?_
      refine z_ifT ?_
      refine z_ok (e_q (q_rd (l_var rfl) rfl)) ?_
      exact z_rt ⟨rfl, rfl⟩
    refine z_ok rfl ?_
    refine z_ifF ?_
    exact z_nx rfl
  intro l12
  refine z_of f_tupL ?_
  exact z_rt ⟨rfl, rfl⟩
def p12_law_int_b (thing1 : Int) : M (Flow Unit Empty Unit) :=
 .ok (.rt ())
def p12_law_int (thing1 : Int) : M Unit := toM (p12_law_int_b thing1)
theorem p12_law_int_ok {n : Nat} (h : 12 < n) (thing1 : Int) : CF (fun a => (fun (_ : Unit) => PV.bl true) a) (fun a : Unit => [some (PV.int thing1)]) (fun z : Unit => [some (PV.int thing1)]) (F n 12 [(PV.int thing1)]) (p12_law_int thing1) := by
  rw [F_at h]
  refine run_simF (d := n12) (e := [(some (PV.int thing1))]) rfl ?_
  refine c_ret ?_
  refine z_ok (e_and (e_isi (q_rd (l_var rfl) rfl) (isi_ty rfl kt_int_int)) (fun _ => (ea_one (e_not (e_isi (q_rd (l_var rfl) rfl) (isi_ty rfl kt_int_bool)))))) ?_
  exact z_rt ⟨rfl, rfl⟩
def p13_law_same_b (thing1 : Int) (due2 : Int) : M (Flow Bool Empty Bool) :=
 (p12_law_int thing1).bind fun v3 =>
 (if true then
 .ok (.rt (decide (thing1 = due2)))
else
 .ok (.rt false))
def p13_law_same (thing1 : Int) (due2 : Int) : M Bool := toM (p13_law_same_b thing1 due2)
theorem p13_law_same_ok {n : Nat} (h : 13 < n) (thing1 : Int) (due2 : Int) : CF (fun a => PV.bl a) (fun a : Bool => [some (PV.int thing1), some (PV.int due2)]) (fun z : Unit => [some (PV.int thing1), some (PV.int due2)]) (F n 13 [(PV.int thing1), (PV.int due2)]) (p13_law_same thing1 due2) := by
  rw [F_at h]
  refine run_simF (d := n13) (e := [(some (PV.int thing1)), (some (PV.int due2))]) rfl ?_
  refine c_ret ?_
  refine x_and ?_
  refine x_call ?_
  refine z_ok (a_e (e_q (q_rd (l_var rfl) rfl)) (fz_to (e := PV.int) thing1) a_nil) ?_
  refine z_call (e2 := [(some (PV.int thing1)), (some (PV.int due2))]) (E3 := fun a => [(some (PV.int thing1)), (some (PV.int due2))]) rfl rfl (p12_law_int_ok (n := 13) (by decide) thing1) (fun _ => rfl) (fun _ _ => ⟨(), rfl⟩) ?_
  intro v3
  refine xa_cons ?_ ?_
  · refine z_ok (e_cmp (b_p (l_var rfl)) (b_p (l_var rfl)) (c_eq (e := PV.int) (a := thing1) (b := due2) (by decide))) ?_
    refine xa_nil ?_
    exact z_rt ⟨rfl, rfl⟩
  exact z_rt ⟨rfl, rfl⟩
def p14_law_ints_f1 (thing1 : (List Int)) (due2 : (List Int)) : Int → Unit → M (Flow Unit Unit Bool) := fun k5 _ =>
 (M.of (atI thing1 k5)).bind fun y6 =>
 (M.of (atI due2 k5)).bind fun y8 =>
 (p13_law_same y6 y8).bind fun v10 =>
 (if (!v10) then
 .ok (.rt false)
else
 .ok (.nx ()))
def p14_law_ints_b (thing1 : (List Int)) (due2 : (List Int)) : M (Flow Bool Empty Bool) :=
 (if ((!true) || (!decide ((thing1.length : Int) = (due2.length : Int)))) then
 .ok (.rt false)
else
 (gd (rgOk (due2.length : Int))).bind fun _ =>
 (M.andThen (forF (p14_law_ints_f1 thing1 due2) (rangeI 0 (due2.length : Int)) ()) fun _ =>
 .ok (.rt true)))
def p14_law_ints (thing1 : (List Int)) (due2 : (List Int)) : M Bool := toM (p14_law_ints_b thing1 due2)
theorem p14_law_ints_ok {n : Nat} (h : 14 < n) (thing1 : (List Int)) (due2 : (List Int)) : CF (fun a => PV.bl a) (fun a : Bool => [some ((eV PV.int) thing1), some ((eL false PV.int) due2)]) (fun z : Unit => [some ((eV PV.int) thing1), some ((eL false PV.int) due2)]) (F n 14 [((eV PV.int) thing1), ((eL false PV.int) due2)]) (p14_law_ints thing1 due2) := by
  rw [F_at h]
  refine run_simF (d := n14) (e := [(some ((eV PV.int) thing1)), (some ((eL false PV.int) due2)), none]) rfl ?_
  refine c_ite ?_
  refine z_ok (t_or (to_cons (t_not (t_v (b_e (e_isi (q_rd (l_var rfl) rfl) (isi_ty rfl kt_tuple_tuple))) rfl)) (fun _ => (to_one (t_cmp (b_e (e_q (q_lenV (l_var rfl)))) (b_e (e_q (q_lenL (l_var rfl)))) (c_ne (e := PV.int) (a := (thing1.length : Int)) (b := (due2.length : Int)) (by decide))))))) ?_
  refine z_ifs ?_ ?_
  · refine c_ret ?_
    refine z_ok (e_q rfl) ?_
    exact z_rt ⟨rfl, rfl⟩
  refine c_for ?_
  refine x_r1 ?_
  refine z_ok (e_q (q_lenL (l_var rfl))) ?_
  refine g_gd ?_
  intro h3
  refine z_of (w_r1 h3) ?_
  refine z_for (E := (fun (s : Unit) (d : Option PV) => [(some ((eV PV.int) thing1)), (some ((eL false PV.int) due2)), d])) (f := (p14_law_ints_f1 thing1 due2)) (s0 := ()) none rfl ?_ ?_
  · intro k5 _ d4
    refine ⟨_, (tp_one (e := PV.int)), ?_⟩
    refine c_ite ?_
    refine x_tnot ?_
    refine x_tv ?_
    refine x_Be ?_
    refine x_call ?_
    refine g_of ?_
    intro y6 h7
    refine g_of ?_
    intro y8 h9
    refine z_ok (a_e (e_q (q_rd (l_ixV (l_var rfl) (q_rd (l_var rfl) rfl) h7) rfl)) (fz_to (e := PV.int) y6) (a_e (e_q (q_rd (l_ixL (l_var rfl) (q_rd (l_var rfl) rfl) h9) rfl)) (fz_to (e := PV.int) y8) a_nil)) ?_
    refine z_call (e2 := [(some ((eV PV.int) thing1)), (some ((eL false PV.int) due2)), (some (PV.int k5))]) (E3 := fun a => [(some ((eV PV.int) thing1)), (some ((eL false PV.int) due2)), (some (PV.int k5))]) rfl rfl (p13_law_same_ok (n := 14) (by decide) y6 y8) (fun _ => rfl) (fun _ _ => ⟨(), rfl⟩) ?_
    intro v10
    refine z_of rfl ?_
    refine z_ifs ?_ ?_
    · refine c_ret ?_
      refine z_ok (e_q rfl) ?_
      exact z_rt ⟨rfl, rfl⟩
    exact c_nil ⟨(some (PV.int k5)), rfl⟩
  intro _ d11
  refine c_ret ?_
  refine z_ok (e_q rfl) ?_
  exact z_rt ⟨rfl, rfl⟩
def p18_back_lists_c1  : Int → M (Flow Unit Empty (List Int)) := fun x3 =>
 .ok (.rt ([] : List Int))
def p18_back_lists_f2  : (Int × Int) → (List (List Int)) → M (Flow (List (List Int)) (List (List Int)) (List (List Int))) := fun (tail8, head9) back5 =>
 (M.of (atI back5 head9)).bind fun r10 =>
 (gd (decide (r10.length < sizeLine))).bind fun _ =>
 (M.of (setI back5 head9 (r10 ++ [tail8]))).bind fun back12 =>
 .ok (.nx back12)
def p18_back_lists_f3  : (Int × Int) → (List (List Int)) → M (Flow (List (List Int)) (List (List Int)) (List (List Int))) := fun (a21, b22) back18 =>
 (M.of (atI back18 a21)).bind fun r23 =>
 (gd (decide (r23.length < sizeLine))).bind fun _ =>
 (M.of (setI back18 a21 (r23 ++ [b22]))).bind fun back25 =>
 (M.of (atI back25 b22)).bind fun r28 =>
 (gd (decide (r28.length < sizeLine))).bind fun _ =>
 (M.of (setI back25 b22 (r28 ++ [a21]))).bind fun back30 =>
 .ok (.nx back30)
def p18_back_lists_b (web1 : Web) : M (Flow (List (List Int)) Empty (List (List Int))) :=
 (gd (rgOk web1.places)).bind fun _ =>
 (gd (sOk (rangeI 0 web1.places).length)).bind fun _ => (lcF (p18_back_lists_c1) (rangeI 0 web1.places)).bind fun l4 =>
 (M.andThen (forF (p18_back_lists_f2) web1.panels l4) fun back15 =>
 (M.andThen (forF (p18_back_lists_f3) web1.ties back15) fun back33 =>
 .ok (.rt back33)))
def p18_back_lists (web1 : Web) : M (List (List Int)) := toM (p18_back_lists_b web1)
theorem p18_back_lists_ok {n : Nat} (h : 18 < n) (web1 : Web) : CF (fun a => (eL true (eL true PV.int)) a) (fun a : (List (List Int)) => [some ((eWeb false) web1)]) (fun z : Unit => [some ((eWeb false) web1)]) (F n 18 [((eWeb false) web1)]) (p18_back_lists web1) := by
  rw [F_at h]
  refine run_simF (d := n18) (e := [(some ((eWeb false) web1)), none, none, none, none, none, none]) rfl ?_
  refine c_set ?_
  refine x_lc ?_
  refine x_r1 ?_
  refine z_ok (e_q (q_rd (l_fld (l_var rfl) fx_6_0 rfl) rfl)) ?_
  refine g_gd ?_
  intro h2
  refine z_of (w_r1 h2) ?_
  refine z_lc (f := (p18_back_lists_c1)) (e' := (eL true PV.int)) rfl ?_ ?_
  · intro x3
    refine ⟨_, (tp_one (e := PV.int)), ?_⟩
    refine z_ok ta_nil ?_
    refine z_ifT ?_
    refine z_ok (e_lstL (PV.int) ([] : List Int) s_nil rfl) ?_
    exact z_rt ⟨rfl, rfl⟩
  intro l4
  refine z_fz (fz_no _) ?_
  refine c_for ?_
  refine x_ie ?_
  refine z_ok (e_q (q_rd (l_fld (l_var rfl) fx_6_1 rfl) rfl)) ?_
  refine z_of w_V ?_
  refine z_for (E := (fun (s : (List (List Int))) (d : Option PV × Option PV) => [(some ((eWeb false) web1)), (some ((eL true (eL true PV.int)) s)), d.1, d.2, none, none, none])) (f := (p18_back_lists_f2)) (s0 := l4) (none, none) rfl ?_ ?_
  · rintro ⟨tail8, head9⟩ back5 ⟨d6, d7⟩
    refine ⟨_, (tp_tup rfl), ?_⟩
    refine g_of ?_
    intro r10 h11
    refine g_gd ?_
    intro h14
    refine g_of ?_
    intro back12 h13
    refine c_appQ2 (en := PV.int) (y := tail8) rfl (q_rd (l_var rfl) rfl) (q_rd (l_var rfl) rfl) h11 h13 h14 ?_
    exact c_nil ⟨((some (PV.int tail8)), (some (PV.int head9))), rfl⟩
  rintro back15 ⟨d16, d17⟩
  refine c_for ?_
  refine x_ie ?_
  refine z_ok (e_q (q_rd (l_fld (l_var rfl) fx_6_2 rfl) rfl)) ?_
  refine z_of w_V ?_
  refine z_for (E := (fun (s : (List (List Int))) (d : Option PV × Option PV) => [(some ((eWeb false) web1)), (some ((eL true (eL true PV.int)) s)), d16, d17, d.1, d.2, none])) (f := (p18_back_lists_f3)) (s0 := back15) (none, none) rfl ?_ ?_
  · rintro ⟨a21, b22⟩ back18 ⟨d19, d20⟩
    refine ⟨_, (tp_tup rfl), ?_⟩
    refine g_of ?_
    intro r23 h24
    refine g_gd ?_
    intro h27
    refine g_of ?_
    intro back25 h26
    refine c_appQ2 (en := PV.int) (y := b22) rfl (q_rd (l_var rfl) rfl) (q_rd (l_var rfl) rfl) h24 h26 h27 ?_
    refine g_of ?_
    intro r28 h29
    refine g_gd ?_
    intro h32
    refine g_of ?_
    intro back30 h31
    refine c_appQ2 (en := PV.int) (y := a21) rfl (q_rd (l_var rfl) rfl) (q_rd (l_var rfl) rfl) h29 h31 h32 ?_
    exact c_nil ⟨((some (PV.int a21)), (some (PV.int b22))), rfl⟩
  rintro back33 ⟨d34, d35⟩
  refine c_ret ?_
  refine z_ok (e_mv rfl) ?_
  exact z_rt ⟨rfl, rfl⟩
def p19_knots_c1  : Int → M (Flow Unit Empty Bool) := fun x5 =>
 .ok (.rt false)
def p19_knots_c3 (v20 : (List Bool)) (v21 : (List Bool)) : Int → M (Flow Unit Empty Int) := fun x23 =>
 (M.of (atI v20 x23)).bind fun y28 =>
 (if y28 then
 (M.of (atI v21 x23)).bind fun y30 =>
 (if y30 then
 .ok (.rt x23)
else
 .ok (.nx ()))
else
 .ok (.nx ()))
def p19_knots_f4  : Int → (List Bool) → M (Flow (List Bool) (List Bool) (List (List Int))) := fun x35 given33 =>
 (M.of (setI given33 x35 true)).bind fun given36 =>
 .ok (.nx given36)
def p19_knots_f2 (v2 : (List (List Int))) (v3 : (List (List Int))) (web1 : Web) : Int → ((List Bool) × (List (List Int))) → M (Flow ((List Bool) × (List (List Int))) ((List Bool) × (List (List Int))) (List (List Int))) := fun place15 (given8, told9) =>
 (M.of (atI given8 place15)).bind fun y18 =>
 (if (!y18) then
 (p15_reach_row v2 place15).bind fun v20 =>
 (p15_reach_row v3 place15).bind fun v21 =>
 (gd (rgOk web1.places)).bind fun _ =>
 (gd (sOk (rangeI 0 web1.places).length)).bind fun _ => (lcF (p19_knots_c3 v20 v21) (rangeI 0 web1.places)).bind fun l32 =>
 (M.andThen (forF (p19_knots_f4) l32 given8) fun given38 =>
 (gd (decide (told9.length < sizeLine))).bind fun _ =>
 .ok (.nx (given38, (told9 ++ [l32]))))
else
 .ok (.nx (given8, told9)))
def p19_knots_b (web1 : Web) : M (Flow (List (List Int)) Empty (List (List Int))) :=
 (p16_move_lists web1).bind fun v2 =>
 (p18_back_lists web1).bind fun v3 =>
 (gd (rgOk web1.places)).bind fun _ =>
 (gd (sOk (rangeI 0 web1.places).length)).bind fun _ => (lcF (p19_knots_c1) (rangeI 0 web1.places)).bind fun l6 =>
 (gd (rgOk web1.places)).bind fun _ =>
 (M.andThen (forF (p19_knots_f2 v2 v3 web1) (rangeI 0 web1.places) (l6, ([] : List (List Int)))) fun (given41, told42) =>
 .ok (.rt told42))
def p19_knots (web1 : Web) : M (List (List Int)) := toM (p19_knots_b web1)
theorem p19_knots_ok {n : Nat} (h : 19 < n) (web1 : Web) : CF (fun a => (eV (eV PV.int)) a) (fun a : (List (List Int)) => [some ((eWeb false) web1)]) (fun z : Unit => [some ((eWeb false) web1)]) (F n 19 [((eWeb false) web1)]) (p19_knots web1) := by
  rw [F_at h]
  refine run_simF (d := n19) (e := [(some ((eWeb false) web1)), none, none, none, none, none, none, none, none, none, none]) rfl ?_
  refine c_set ?_
  refine x_call ?_
  refine z_ok (a_e (e_q (q_rd (l_var rfl) rfl)) (fz_to (e := (eWeb false)) web1) a_nil) ?_
  refine z_call (e2 := [(some ((eWeb false) web1)), none, none, none, none, none, none, none, none, none, none]) (E3 := fun a => [(some ((eWeb false) web1)), none, none, none, none, none, none, none, none, none, none]) rfl rfl (p16_move_lists_ok (n := 19) (by decide) web1) (fun _ => rfl) (fun _ _ => ⟨(), rfl⟩) ?_
  intro v2
  refine z_fz (fz_to (e := (eL true (eL true PV.int))) v2) ?_
  refine c_set ?_
  refine x_call ?_
  refine z_ok (a_e (e_q (q_rd (l_var rfl) rfl)) (fz_to (e := (eWeb false)) web1) a_nil) ?_
  refine z_call (e2 := [(some ((eWeb false) web1)), (some ((eL false (eL false PV.int)) v2)), none, none, none, none, none, none, none, none, none]) (E3 := fun a => [(some ((eWeb false) web1)), (some ((eL false (eL false PV.int)) v2)), none, none, none, none, none, none, none, none, none]) rfl rfl (p18_back_lists_ok (n := 19) (by decide) web1) (fun _ => rfl) (fun _ _ => ⟨(), rfl⟩) ?_
  intro v3
  refine z_fz (fz_to (e := (eL true (eL true PV.int))) v3) ?_
  refine c_set ?_
  refine x_lc ?_
  refine x_r1 ?_
  refine z_ok (e_q (q_rd (l_fld (l_var rfl) fx_6_0 rfl) rfl)) ?_
  refine g_gd ?_
  intro h4
  refine z_of (w_r1 h4) ?_
  refine z_lc (f := (p19_knots_c1)) (e' := PV.bl) rfl ?_ ?_
  · intro x5
    refine ⟨_, (tp_one (e := PV.int)), ?_⟩
    refine z_ok ta_nil ?_
    refine z_ifT ?_
    refine z_ok (e_q rfl) ?_
    exact z_rt ⟨rfl, rfl⟩
  intro l6
  refine z_fz (fz_no _) ?_
  refine c_set ?_
  refine z_ok (e_lstL ((eV PV.int)) ([] : List (List Int)) s_nil rfl) ?_
  refine z_fz (fz_no _) ?_
  refine c_for ?_
  refine x_r1 ?_
  refine z_ok (e_q (q_rd (l_fld (l_var rfl) fx_6_0 rfl) rfl)) ?_
  refine g_gd ?_
  intro h7
  refine z_of (w_r1 h7) ?_
  refine z_for (E := (fun (s : ((List Bool) × (List (List Int)))) (d : Option PV × Option PV × Option PV × Option PV × Option PV) => [(some ((eWeb false) web1)), (some ((eL false (eL false PV.int)) v2)), (some ((eL false (eL false PV.int)) v3)), (some ((eL true PV.bl) s.1)), (some ((eL true (eV PV.int)) s.2)), d.1, d.2.1, d.2.2.1, d.2.2.2.1, d.2.2.2.2, none])) (f := (p19_knots_f2 v2 v3 web1)) (s0 := (l6, ([] : List (List Int)))) (none, none, none, none, none) rfl ?_ ?_
  · rintro place15 ⟨given8, told9⟩ ⟨d10, d11, d12, d13, d14⟩
    refine ⟨_, (tp_one (e := PV.int)), ?_⟩
    refine c_ite ?_
    refine g_of ?_
    intro y18 h19
    refine z_ok (t_not (t_v (b_p (l_ixL (l_var rfl) (q_rd (l_var rfl) rfl) h19)) rfl)) ?_
    refine z_ifs ?_ ?_
    · refine c_set ?_
      refine x_call ?_
      refine z_ok (a_e (e_q (q_rd (l_var rfl) rfl)) (fz_to (e := (eL false (eL false PV.int))) v2) (a_e (e_q (q_rd (l_var rfl) rfl)) (fz_to (e := PV.int) place15) a_nil)) ?_
      refine z_call (e2 := [(some ((eWeb false) web1)), (some ((eL false (eL false PV.int)) v2)), (some ((eL false (eL false PV.int)) v3)), (some ((eL true PV.bl) given8)), (some ((eL true (eV PV.int)) told9)), (some (PV.int place15)), d11, d12, d13, d14, none]) (E3 := fun a => [(some ((eWeb false) web1)), (some ((eL false (eL false PV.int)) v2)), (some ((eL false (eL false PV.int)) v3)), (some ((eL true PV.bl) given8)), (some ((eL true (eV PV.int)) told9)), (some (PV.int place15)), d11, d12, d13, d14, none]) rfl rfl (p15_reach_row_ok (n := 19) (by decide) v2 place15) (fun _ => rfl) (fun _ _ => ⟨(), rfl⟩) ?_
      intro v20
      refine z_fz (fz_to (e := (eL true PV.bl)) v20) ?_
      refine c_set ?_
      refine x_call ?_
      refine z_ok (a_e (e_q (q_rd (l_var rfl) rfl)) (fz_to (e := (eL false (eL false PV.int))) v3) (a_e (e_q (q_rd (l_var rfl) rfl)) (fz_to (e := PV.int) place15) a_nil)) ?_
      refine z_call (e2 := [(some ((eWeb false) web1)), (some ((eL false (eL false PV.int)) v2)), (some ((eL false (eL false PV.int)) v3)), (some ((eL true PV.bl) given8)), (some ((eL true (eV PV.int)) told9)), (some (PV.int place15)), (some ((eL false PV.bl) v20)), d12, d13, d14, none]) (E3 := fun a => [(some ((eWeb false) web1)), (some ((eL false (eL false PV.int)) v2)), (some ((eL false (eL false PV.int)) v3)), (some ((eL true PV.bl) given8)), (some ((eL true (eV PV.int)) told9)), (some (PV.int place15)), (some ((eL false PV.bl) v20)), d12, d13, d14, none]) rfl rfl (p15_reach_row_ok (n := 19) (by decide) v3 place15) (fun _ => rfl) (fun _ _ => ⟨(), rfl⟩) ?_
      intro v21
      refine z_fz (fz_to (e := (eL true PV.bl)) v21) ?_
      refine c_set ?_
      refine x_f1 ?_
      refine x_Be ?_
      refine x_lc ?_
      refine x_r1 ?_
      refine z_ok (e_q (q_rd (l_fld (l_var rfl) fx_6_0 rfl) rfl)) ?_
      refine g_gd ?_
      intro h22
      refine z_of (w_r1 h22) ?_
      refine z_lc (f := (p19_knots_c3 v20 v21)) (e' := PV.int) rfl ?_ ?_
      · intro x23
        refine ⟨_, (tp_one (e := PV.int)), ?_⟩
        refine xta_cons ?_
        refine x_tand ?_
        refine xta_cons ?_
        refine g_of ?_
        intro y28 h29
        refine z_ok (t_v (b_p (l_ixL (l_var rfl) (q_rd (l_var rfl) rfl) h29)) rfl) ?_
        refine z_ifb ?_ ?_
        · refine xta_cons ?_
          refine g_of ?_
          intro y30 h31
          refine z_ok (t_v (b_p (l_ixL (l_var rfl) (q_rd (l_var rfl) rfl) h31)) rfl) ?_
          refine z_ifb ?_ ?_
          · refine xta_nil ?_
            refine z_ifbT ?_
            refine xta_nil ?_
            refine z_ifT ?_
            refine z_ok (e_q (q_rd (l_var rfl) rfl)) ?_
            exact z_rt ⟨rfl, rfl⟩
          refine z_ok rfl ?_
          refine z_ifbF ?_
          refine z_ok rfl ?_
          refine z_ifF ?_
          exact z_nx rfl
        refine z_ok rfl ?_
        refine z_ifbF ?_
        refine z_ok rfl ?_
        refine z_ifF ?_
        exact z_nx rfl
      intro l32
      refine z_of f_tupL ?_
      refine z_fz (fz_to (e := (eV PV.int)) l32) ?_
      refine c_for ?_
      refine x_ie ?_
      refine z_ok (e_q (q_rd (l_var rfl) rfl)) ?_
      refine z_of w_V ?_
      refine z_for (E := (fun (s : (List Bool)) (d : Option PV) => [(some ((eWeb false) web1)), (some ((eL false (eL false PV.int)) v2)), (some ((eL false (eL false PV.int)) v3)), (some ((eL true PV.bl) s)), (some ((eL true (eV PV.int)) told9)), (some (PV.int place15)), (some ((eL false PV.bl) v20)), (some ((eL false PV.bl) v21)), d, (some ((eV PV.int) l32)), none])) (f := (p19_knots_f4)) (s0 := given8) (rst d13) rfl ?_ ?_
      · intro x35 given33 d34
        refine ⟨_, (tp_one (e := PV.int)), ?_⟩
        refine c_setIx ?_
        refine z_ok (e_q rfl) ?_
        refine g_of ?_
        intro given36 h37
        refine z_on (j_setI (en := PV.bl) (y := true) rfl (q_rd (l_var rfl) rfl) h37) ?_
        exact c_nil ⟨(some (PV.int x35)), rfl⟩
      intro given38 d39
      refine g_gd ?_
      intro h40
      refine c_appQ (en := (eV PV.int)) (y := l32) rfl (q_rd (l_var rfl) rfl) h40 ?_
      exact c_nil ⟨((some (PV.int place15)), (some ((eL false PV.bl) v20)), (some ((eL false PV.bl) v21)), d39, (some ((eV PV.int) l32))), rfl⟩
    exact c_nil ⟨((some (PV.int place15)), d11, d12, d13, d14), rfl⟩
  rintro ⟨given41, told42⟩ ⟨d43, d44, d45, d46, d47⟩
  refine c_ret ?_
  refine z_ok (e_f1 (b_p (l_var rfl)) f_tupL) ?_
  exact z_rt ⟨rfl, rfl⟩
def p20_knot_of_c1  : Int → M (Flow Unit Empty Int) := fun x3 =>
 .ok (.rt (0 : Int))
def p20_knot_of_f3 (k10 : Int) : Int → (List Int) → M (Flow (List Int) (List Int) (List Int)) := fun place14 number12 =>
 (M.of (setI number12 place14 k10)).bind fun number15 =>
 .ok (.nx number15)
def p20_knot_of_f2  : (Int × (List Int)) → (List Int) → M (Flow (List Int) (List Int) (List Int)) := fun (k10, knot11) number6 =>
 (M.andThen (forF (p20_knot_of_f3 k10) knot11 number6) fun number17 =>
 .ok (.nx number17))
def p20_knot_of_b (web1 : Web) : M (Flow (List Int) Empty (List Int)) :=
 (gd (rgOk web1.places)).bind fun _ =>
 (gd (sOk (rangeI 0 web1.places).length)).bind fun _ => (lcF (p20_knot_of_c1) (rangeI 0 web1.places)).bind fun l4 =>
 (p19_knots web1).bind fun v5 =>
 (M.andThen (forF (p20_knot_of_f2) (enI 0 v5) l4) fun number19 =>
 .ok (.rt number19))
def p20_knot_of (web1 : Web) : M (List Int) := toM (p20_knot_of_b web1)
theorem p20_knot_of_ok {n : Nat} (h : 20 < n) (web1 : Web) : CF (fun a => (eV PV.int) a) (fun a : (List Int) => [some ((eWeb false) web1)]) (fun z : Unit => [some ((eWeb false) web1)]) (F n 20 [((eWeb false) web1)]) (p20_knot_of web1) := by
  rw [F_at h]
  refine run_simF (d := n20) (e := [(some ((eWeb false) web1)), none, none, none, none, none]) rfl ?_
  refine c_set ?_
  refine x_lc ?_
  refine x_r1 ?_
  refine z_ok (e_q (q_rd (l_fld (l_var rfl) fx_6_0 rfl) rfl)) ?_
  refine g_gd ?_
  intro h2
  refine z_of (w_r1 h2) ?_
  refine z_lc (f := (p20_knot_of_c1)) (e' := PV.int) rfl ?_ ?_
  · intro x3
    refine ⟨_, (tp_one (e := PV.int)), ?_⟩
    refine z_ok ta_nil ?_
    refine z_ifT ?_
    refine z_ok (e_q rfl) ?_
    exact z_rt ⟨rfl, rfl⟩
  intro l4
  refine z_fz (fz_no _) ?_
  refine c_for ?_
  refine x_en ?_
  refine x_call ?_
  refine z_ok (a_e (e_q (q_rd (l_var rfl) rfl)) (fz_to (e := (eWeb false)) web1) a_nil) ?_
  refine z_call (e2 := [(some ((eWeb false) web1)), (some ((eL true PV.int) l4)), none, none, none, none]) (E3 := fun a => [(some ((eWeb false) web1)), (some ((eL true PV.int) l4)), none, none, none, none]) rfl rfl (p19_knots_ok (n := 20) (by decide) web1) (fun _ => rfl) (fun _ _ => ⟨(), rfl⟩) ?_
  intro v5
  refine z_of w_enV ?_
  refine z_for (E := (fun (s : (List Int)) (d : Option PV × Option PV × Option PV) => [(some ((eWeb false) web1)), (some ((eL true PV.int) s)), d.1, d.2.1, d.2.2, none])) (f := (p20_knot_of_f2)) (s0 := l4) (none, none, none) rfl ?_ ?_
  · rintro ⟨k10, knot11⟩ number6 ⟨d7, d8, d9⟩
    refine ⟨_, (tp_tup rfl), ?_⟩
    refine c_for ?_
    refine x_ie ?_
    refine z_ok (e_q (q_rd (l_var rfl) rfl)) ?_
    refine z_of w_V ?_
    refine z_for (E := (fun (s : (List Int)) (d : Option PV) => [(some ((eWeb false) web1)), (some ((eL true PV.int) s)), (some (PV.int k10)), (some ((eV PV.int) knot11)), d, none])) (f := (p20_knot_of_f3 k10)) (s0 := number6) d9 rfl ?_ ?_
    · intro place14 number12 d13
      refine ⟨_, (tp_one (e := PV.int)), ?_⟩
      refine c_setIx ?_
      refine z_ok (e_q (q_rd (l_var rfl) rfl)) ?_
      refine g_of ?_
      intro number15 h16
      refine z_on (j_setI (en := PV.int) (y := k10) rfl (q_rd (l_var rfl) rfl) h16) ?_
      exact c_nil ⟨(some (PV.int place14)), rfl⟩
    intro number17 d18
    exact c_nil ⟨((some (PV.int k10)), (some ((eV PV.int) knot11)), d18), rfl⟩
  rintro number19 ⟨d20, d21, d22⟩
  refine c_ret ?_
  refine z_ok (e_f1 (b_p (l_var rfl)) f_tupL) ?_
  exact z_rt ⟨rfl, rfl⟩
def p13_law_same_1_b (thing1 : Int) (due2 : (Option Int)) : M (Flow Bool Empty Bool) :=
 (p12_law_int thing1).bind fun v3 =>
 (if true then
 .ok (.rt (decide ((some thing1) = due2)))
else
 .ok (.rt false))
def p13_law_same_1 (thing1 : Int) (due2 : (Option Int)) : M Bool := toM (p13_law_same_1_b thing1 due2)
theorem p13_law_same_1_ok {n : Nat} (h : 13 < n) (thing1 : Int) (due2 : (Option Int)) : CF (fun a => PV.bl a) (fun a : Bool => [some (PV.int thing1), some ((eO PV.int) due2)]) (fun z : Unit => [some (PV.int thing1), some ((eO PV.int) due2)]) (F n 13 [(PV.int thing1), ((eO PV.int) due2)]) (p13_law_same_1 thing1 due2) := by
  rw [F_at h]
  refine run_simF (d := n13) (e := [(some (PV.int thing1)), (some ((eO PV.int) due2))]) rfl ?_
  refine c_ret ?_
  refine x_and ?_
  refine x_call ?_
  refine z_ok (a_e (e_q (q_rd (l_var rfl) rfl)) (fz_to (e := PV.int) thing1) a_nil) ?_
  refine z_call (e2 := [(some (PV.int thing1)), (some ((eO PV.int) due2))]) (E3 := fun a => [(some (PV.int thing1)), (some ((eO PV.int) due2))]) rfl rfl (p12_law_int_ok (n := 13) (by decide) thing1) (fun _ => rfl) (fun _ _ => ⟨(), rfl⟩) ?_
  intro v3
  refine xa_cons ?_ ?_
  · refine z_ok (e_cmp (b_p (l_var rfl)) (b_p (l_var rfl)) (c_eq (e := (eO PV.int)) (a := (some thing1)) (b := due2) (by decide))) ?_
    refine xa_nil ?_
    exact z_rt ⟨rfl, rfl⟩
  exact z_rt ⟨rfl, rfl⟩
def p14_law_ints_1_f1 (thing1 : (List Int)) (due2 : (List (Option Int))) : Int → Unit → M (Flow Unit Unit Bool) := fun k5 _ =>
 (M.of (atI thing1 k5)).bind fun y6 =>
 (M.of (atI due2 k5)).bind fun y8 =>
 (p13_law_same_1 y6 y8).bind fun v10 =>
 (if (!v10) then
 .ok (.rt false)
else
 .ok (.nx ()))
def p14_law_ints_1_b (thing1 : (List Int)) (due2 : (List (Option Int))) : M (Flow Bool Empty Bool) :=
 (if ((!true) || (!decide ((thing1.length : Int) = (due2.length : Int)))) then
 .ok (.rt false)
else
 (gd (rgOk (due2.length : Int))).bind fun _ =>
 (M.andThen (forF (p14_law_ints_1_f1 thing1 due2) (rangeI 0 (due2.length : Int)) ()) fun _ =>
 .ok (.rt true)))
def p14_law_ints_1 (thing1 : (List Int)) (due2 : (List (Option Int))) : M Bool := toM (p14_law_ints_1_b thing1 due2)
theorem p14_law_ints_1_ok {n : Nat} (h : 14 < n) (thing1 : (List Int)) (due2 : (List (Option Int))) : CF (fun a => PV.bl a) (fun a : Bool => [some ((eV PV.int) thing1), some ((eL false (eO PV.int)) due2)]) (fun z : Unit => [some ((eV PV.int) thing1), some ((eL false (eO PV.int)) due2)]) (F n 14 [((eV PV.int) thing1), ((eL false (eO PV.int)) due2)]) (p14_law_ints_1 thing1 due2) := by
  rw [F_at h]
  refine run_simF (d := n14) (e := [(some ((eV PV.int) thing1)), (some ((eL false (eO PV.int)) due2)), none]) rfl ?_
  refine c_ite ?_
  refine z_ok (t_or (to_cons (t_not (t_v (b_e (e_isi (q_rd (l_var rfl) rfl) (isi_ty rfl kt_tuple_tuple))) rfl)) (fun _ => (to_one (t_cmp (b_e (e_q (q_lenV (l_var rfl)))) (b_e (e_q (q_lenL (l_var rfl)))) (c_ne (e := PV.int) (a := (thing1.length : Int)) (b := (due2.length : Int)) (by decide))))))) ?_
  refine z_ifs ?_ ?_
  · refine c_ret ?_
    refine z_ok (e_q rfl) ?_
    exact z_rt ⟨rfl, rfl⟩
  refine c_for ?_
  refine x_r1 ?_
  refine z_ok (e_q (q_lenL (l_var rfl))) ?_
  refine g_gd ?_
  intro h3
  refine z_of (w_r1 h3) ?_
  refine z_for (E := (fun (s : Unit) (d : Option PV) => [(some ((eV PV.int) thing1)), (some ((eL false (eO PV.int)) due2)), d])) (f := (p14_law_ints_1_f1 thing1 due2)) (s0 := ()) none rfl ?_ ?_
  · intro k5 _ d4
    refine ⟨_, (tp_one (e := PV.int)), ?_⟩
    refine c_ite ?_
    refine x_tnot ?_
    refine x_tv ?_
    refine x_Be ?_
    refine x_call ?_
    refine g_of ?_
    intro y6 h7
    refine g_of ?_
    intro y8 h9
    refine z_ok (a_e (e_q (q_rd (l_ixV (l_var rfl) (q_rd (l_var rfl) rfl) h7) rfl)) (fz_to (e := PV.int) y6) (a_e (e_q (q_rd (l_ixL (l_var rfl) (q_rd (l_var rfl) rfl) h9) (Fz.own (e := (eO PV.int)) y8))) (fz_to (e := (eO PV.int)) y8) a_nil)) ?_
    refine z_call (e2 := [(some ((eV PV.int) thing1)), (some ((eL false (eO PV.int)) due2)), (some (PV.int k5))]) (E3 := fun a => [(some ((eV PV.int) thing1)), (some ((eL false (eO PV.int)) due2)), (some (PV.int k5))]) rfl rfl (p13_law_same_1_ok (n := 14) (by decide) y6 y8) (fun _ => rfl) (fun _ _ => ⟨(), rfl⟩) ?_
    intro v10
    refine z_of rfl ?_
    refine z_ifs ?_ ?_
    · refine c_ret ?_
      refine z_ok (e_q rfl) ?_
      exact z_rt ⟨rfl, rfl⟩
    exact c_nil ⟨(some (PV.int k5)), rfl⟩
  intro _ d11
  refine c_ret ?_
  refine z_ok (e_q rfl) ?_
  exact z_rt ⟨rfl, rfl⟩
def p21_law_refused_b (web1 : Web) (place2 : Int) : M (Flow (List Bool) Empty (List Bool)) :=
 (M.andThen (tryM k.G 0 ((p17_reached web1 place2).bind fun v3 =>
 .ok (.nx ([] : List Bool))) fun x4 =>
 (M.of (subOf k.G x4 1)).bind fun b6 =>
 (M.of (subOf k.G x4 2)).bind fun b8 =>
 (M.of (subOf k.G x4 3)).bind fun b10 =>
 .ok (.nx [true, b6, b8, b10])) fun kinds12 =>
 .ok (.rt kinds12))
def p21_law_refused (web1 : Web) (place2 : Int) : M (List Bool) := toM (p21_law_refused_b web1 place2)
theorem p21_law_refused_ok {n : Nat} (h : 21 < n) (web1 : Web) (place2 : Int) : CF (fun a => (eL true PV.bl) a) (fun a : (List Bool) => [some ((eWeb false) web1), some (PV.int place2)]) (fun z : Unit => [some ((eWeb false) web1), some (PV.int place2)]) (F n 21 [((eWeb false) web1), (PV.int place2)]) (p21_law_refused web1 place2) := by
  rw [F_at h]
  refine run_simF (d := n21) (e := [(some ((eWeb false) web1)), (some (PV.int place2)), none, none]) rfl ?_
  refine c_set ?_
  refine z_ok (e_lstL (PV.bl) ([] : List Bool) s_nil rfl) ?_
  refine z_fz (fz_no _) ?_
  refine c_tryE (E := (fun (s : (List Bool)) (d : Option PV) => [(some ((eWeb false) web1)), (some (PV.int place2)), (some ((eL true PV.bl) s)), d])) (EX := (fun (z : Unit) => [(some ((eWeb false) web1)), (some (PV.int place2)), (some ((eL true PV.bl) ([] : List Bool))), none])) ?_ (fun _ => by simp) ?_ (fun _ _ => ⟨(), rfl⟩) ?_
  · refine c_expr ?_
    refine x_call ?_
    refine z_ok (a_e (e_q (q_rd (l_var rfl) rfl)) (fz_to (e := (eWeb false)) web1) (a_e (e_q (q_rd (l_var rfl) rfl)) (fz_to (e := PV.int) place2) a_nil)) ?_
    refine z_call (e2 := [(some ((eWeb false) web1)), (some (PV.int place2)), (some ((eL true PV.bl) ([] : List Bool))), none]) (E3 := fun a => [(some ((eWeb false) web1)), (some (PV.int place2)), (some ((eL true PV.bl) ([] : List Bool))), none]) rfl rfl (p17_reached_ok (n := 21) (by decide) web1 place2) (fun _ => rfl) (fun _ _ => ⟨(), rfl⟩) ?_
    intro v3
    exact c_nil ⟨none, rfl⟩
  · intro x4 _
    refine g_of ?_
    intro b6 h7
    refine g_of ?_
    intro b8 h9
    refine g_of ?_
    intro b10 h11
    refine z_su (su_cons (su_lst (sa_cons rfl (sa_cons (sa_is h7) (sa_cons (sa_is h9) (sa_cons (sa_is h11) sa_nil))))) su_nil) ?_
    exact z_nx ⟨none, rfl⟩
  intro kinds12 d13
  refine c_ret ?_
  refine z_ok (e_mv rfl) ?_
  exact z_rt ⟨rfl, rfl⟩
def p3_is_whole_1_b (x1 : Bool) : M (Flow Unit Empty Unit) :=
 .ok (.rt ())
def p3_is_whole_1 (x1 : Bool) : M Unit := toM (p3_is_whole_1_b x1)
theorem p3_is_whole_1_ok {n : Nat} (h : 3 < n) (x1 : Bool) : CF (fun a => (fun (_ : Unit) => PV.bl false) a) (fun a : Unit => [some (PV.bl x1)]) (fun z : Unit => [some (PV.bl x1)]) (F n 3 [(PV.bl x1)]) (p3_is_whole_1 x1) := by
  rw [F_at h]
  refine run_simF (d := n3) (e := [(some (PV.bl x1))]) rfl ?_
  refine c_ret ?_
  refine z_ok (e_and (e_isi (q_rd (l_var rfl) rfl) (isi_ty rfl kt_bool_int)) (fun _ => (ea_one (e_not (e_isi (q_rd (l_var rfl) rfl) (isi_ty rfl kt_bool_bool)))))) ?_
  exact z_rt ⟨rfl, rfl⟩
def p4_whole_1_b (x1 : Bool) (low2 : Int) (high3 : Int) : M (Flow Unit Empty Unit) :=
 (p3_is_whole_1 x1).bind fun v4 =>
 (.exc 1)
def p4_whole_1 (x1 : Bool) (low2 : Int) (high3 : Int) : M Unit := toM (p4_whole_1_b x1 low2 high3)
theorem p4_whole_1_ok {n : Nat} (h : 4 < n) (x1 : Bool) (low2 : Int) (high3 : Int) : CF (fun _ => PV.non) (fun a : Unit => [some (PV.bl x1), some (PV.int low2), some (PV.int high3)]) (fun z : Unit => [some (PV.bl x1), some (PV.int low2), some (PV.int high3)]) (F n 4 [(PV.bl x1), (PV.int low2), (PV.int high3)]) (p4_whole_1 x1 low2 high3) := by
  rw [F_at h]
  refine run_simF (d := n4) (e := [(some (PV.bl x1)), (some (PV.int low2)), (some (PV.int high3))]) rfl ?_
  refine c_ite ?_
  refine x_tnot ?_
  refine x_tv ?_
  refine x_Be ?_
  refine x_call ?_
  refine z_ok (a_e (e_q (q_rd (l_var rfl) rfl)) (fz_to (e := PV.bl) x1) a_nil) ?_
  refine z_call (e2 := [(some (PV.bl x1)), (some (PV.int low2)), (some (PV.int high3))]) (E3 := fun a => [(some (PV.bl x1)), (some (PV.int low2)), (some (PV.int high3))]) rfl rfl (p3_is_whole_1_ok (n := 4) (by decide) x1) (fun _ => rfl) (fun _ _ => ⟨(), rfl⟩) ?_
  intro v4
  refine z_of rfl ?_
  refine z_ifT ?_
  exact c_raise ⟨(), rfl⟩
def p17_reached_1_b (web1 : Web) (place2 : Bool) : M (Flow Unit Empty Unit) :=
 (p4_whole_1 place2 (0 : Int) (web1.places - (1 : Int))).bind fun v3 =>
 .bad
def p17_reached_1 (web1 : Web) (place2 : Bool) : M Unit := toM (p17_reached_1_b web1 place2)
theorem p17_reached_1_ok {n : Nat} (h : 17 < n) (web1 : Web) (place2 : Bool) : CF (fun _ => PV.non) (fun a : Unit => [some ((eWeb false) web1), some (PV.bl place2)]) (fun z : Unit => [some ((eWeb false) web1), some (PV.bl place2)]) (F n 17 [((eWeb false) web1), (PV.bl place2)]) (p17_reached_1 web1 place2) := by
  rw [F_at h]
  refine run_simF (d := n17) (e := [(some ((eWeb false) web1)), (some (PV.bl place2)), none, none]) rfl ?_
  refine c_expr ?_
  refine x_call ?_
  refine z_ok (a_e (e_q (q_rd (l_var rfl) rfl)) (fz_to (e := PV.bl) place2) (a_e (e_q rfl) (fz_to (e := PV.int) (0 : Int)) (a_e (e_bin (b_p (l_fld (l_var rfl) fx_6_0 rfl)) (b_e (e_q rfl)) rfl) (fz_to (e := PV.int) (web1.places - (1 : Int))) a_nil))) ?_
  refine z_call (e2 := [(some ((eWeb false) web1)), (some (PV.bl place2)), none, none]) (E3 := fun a => [(some ((eWeb false) web1)), (some (PV.bl place2)), none, none]) rfl rfl (p4_whole_1_ok (n := 17) (by decide) place2 (0 : Int) (web1.places - (1 : Int))) (fun _ => rfl) (fun _ _ => ⟨(), rfl⟩) ?_
  intro v3
  exact g_bad
def p21_law_refused_1_b (web1 : Web) (place2 : Bool) : M (Flow (List Bool) Empty (List Bool)) :=
 (M.andThen (tryM k.G 0 ((p17_reached_1 web1 place2).bind fun v3 =>
 .bad) fun x4 =>
 (M.of (subOf k.G x4 1)).bind fun b6 =>
 (M.of (subOf k.G x4 2)).bind fun b8 =>
 (M.of (subOf k.G x4 3)).bind fun b10 =>
 .ok (.nx [true, b6, b8, b10])) fun kinds12 =>
 .ok (.rt kinds12))
def p21_law_refused_1 (web1 : Web) (place2 : Bool) : M (List Bool) := toM (p21_law_refused_1_b web1 place2)
theorem p21_law_refused_1_ok {n : Nat} (h : 21 < n) (web1 : Web) (place2 : Bool) : CF (fun a => (eL true PV.bl) a) (fun a : (List Bool) => [some ((eWeb false) web1), some (PV.bl place2)]) (fun z : Unit => [some ((eWeb false) web1), some (PV.bl place2)]) (F n 21 [((eWeb false) web1), (PV.bl place2)]) (p21_law_refused_1 web1 place2) := by
  rw [F_at h]
  refine run_simF (d := n21) (e := [(some ((eWeb false) web1)), (some (PV.bl place2)), none, none]) rfl ?_
  refine c_set ?_
  refine z_ok (e_lstL (PV.int) ([] : List Int) s_nil rfl) ?_
  refine z_fz (fz_no _) ?_
  refine c_tryE (E := (fun (s : (List Bool)) (d : Option PV) => [(some ((eWeb false) web1)), (some (PV.bl place2)), (some ((eL true PV.bl) s)), d])) (EX := (fun (z : Unit) => [(some ((eWeb false) web1)), (some (PV.bl place2)), (some ((eL true PV.int) ([] : List Int))), none])) ?_ (fun _ => by simp) ?_ (fun _ _ => ⟨(), rfl⟩) ?_
  · refine c_expr ?_
    refine x_call ?_
    refine z_ok (a_e (e_q (q_rd (l_var rfl) rfl)) (fz_to (e := (eWeb false)) web1) (a_e (e_q (q_rd (l_var rfl) rfl)) (fz_to (e := PV.bl) place2) a_nil)) ?_
    refine z_call (e2 := [(some ((eWeb false) web1)), (some (PV.bl place2)), (some ((eL true PV.int) ([] : List Int))), none]) (E3 := fun a => [(some ((eWeb false) web1)), (some (PV.bl place2)), (some ((eL true PV.int) ([] : List Int))), none]) rfl rfl (p17_reached_1_ok (n := 21) (by decide) web1 place2) (fun _ => rfl) (fun _ _ => ⟨(), rfl⟩) ?_
    intro v3
    exact g_bad
  · intro x4 _
    refine g_of ?_
    intro b6 h7
    refine g_of ?_
    intro b8 h9
    refine g_of ?_
    intro b10 h11
    refine z_su (su_cons (su_lst (sa_cons rfl (sa_cons (sa_is h7) (sa_cons (sa_is h9) (sa_cons (sa_is h11) sa_nil))))) su_nil) ?_
    exact z_nx ⟨none, rfl⟩
  intro kinds12 d13
  refine c_ret ?_
  refine z_ok (e_mv rfl) ?_
  exact z_rt ⟨rfl, rfl⟩
def p3_is_whole_2_b  : M (Flow Unit Empty Unit) :=
 .ok (.rt ())
def p3_is_whole_2  : M Unit := toM (p3_is_whole_2_b )
theorem p3_is_whole_2_ok {n : Nat} (h : 3 < n)  : CF (fun a => (fun (_ : Unit) => PV.bl false) a) (fun a : Unit => [some (PV.str "0")]) (fun z : Unit => [some (PV.str "0")]) (F n 3 [(PV.str "0")]) (p3_is_whole_2 ) := by
  rw [F_at h]
  refine run_simF (d := n3) (e := [(some (PV.str "0"))]) rfl ?_
  refine c_ret ?_
  refine z_ok (e_and (d := true) (e_isi (q_rd (l_var rfl) rfl) (isi_ty rfl kt_str_int)) (fun h => nomatch h)) ?_
  exact z_rt ⟨rfl, rfl⟩
def p4_whole_2_b (low1 : Int) (high2 : Int) : M (Flow Unit Empty Unit) :=
 (p3_is_whole_2).bind fun v3 =>
 (.exc 1)
def p4_whole_2 (low1 : Int) (high2 : Int) : M Unit := toM (p4_whole_2_b low1 high2)
theorem p4_whole_2_ok {n : Nat} (h : 4 < n) (low1 : Int) (high2 : Int) : CF (fun _ => PV.non) (fun a : Unit => [some (PV.str "0"), some (PV.int low1), some (PV.int high2)]) (fun z : Unit => [some (PV.str "0"), some (PV.int low1), some (PV.int high2)]) (F n 4 [(PV.str "0"), (PV.int low1), (PV.int high2)]) (p4_whole_2 low1 high2) := by
  rw [F_at h]
  refine run_simF (d := n4) (e := [(some (PV.str "0")), (some (PV.int low1)), (some (PV.int high2))]) rfl ?_
  refine c_ite ?_
  refine x_tnot ?_
  refine x_tv ?_
  refine x_Be ?_
  refine x_call ?_
  refine z_ok (a_e (e_q (q_rd (l_var rfl) rfl)) fz_s a_nil) ?_
  refine z_call (e2 := [(some (PV.str "0")), (some (PV.int low1)), (some (PV.int high2))]) (E3 := fun a => [(some (PV.str "0")), (some (PV.int low1)), (some (PV.int high2))]) rfl rfl (p3_is_whole_2_ok (n := 4) (by decide)) (fun _ => rfl) (fun _ _ => ⟨(), rfl⟩) ?_
  intro v3
  refine z_of rfl ?_
  refine z_ifT ?_
  exact c_raise ⟨(), rfl⟩
def p17_reached_2_b (web1 : Web) : M (Flow Unit Empty Unit) :=
 (p4_whole_2 (0 : Int) (web1.places - (1 : Int))).bind fun v2 =>
 .bad
def p17_reached_2 (web1 : Web) : M Unit := toM (p17_reached_2_b web1)
theorem p17_reached_2_ok {n : Nat} (h : 17 < n) (web1 : Web) : CF (fun _ => PV.non) (fun a : Unit => [some ((eWeb false) web1), some (PV.str "0")]) (fun z : Unit => [some ((eWeb false) web1), some (PV.str "0")]) (F n 17 [((eWeb false) web1), (PV.str "0")]) (p17_reached_2 web1) := by
  rw [F_at h]
  refine run_simF (d := n17) (e := [(some ((eWeb false) web1)), (some (PV.str "0")), none, none]) rfl ?_
  refine c_expr ?_
  refine x_call ?_
  refine z_ok (a_e (e_q (q_rd (l_var rfl) rfl)) fz_s (a_e (e_q rfl) (fz_to (e := PV.int) (0 : Int)) (a_e (e_bin (b_p (l_fld (l_var rfl) fx_6_0 rfl)) (b_e (e_q rfl)) rfl) (fz_to (e := PV.int) (web1.places - (1 : Int))) a_nil))) ?_
  refine z_call (e2 := [(some ((eWeb false) web1)), (some (PV.str "0")), none, none]) (E3 := fun a => [(some ((eWeb false) web1)), (some (PV.str "0")), none, none]) rfl rfl (p4_whole_2_ok (n := 17) (by decide) (0 : Int) (web1.places - (1 : Int))) (fun _ => rfl) (fun _ _ => ⟨(), rfl⟩) ?_
  intro v2
  exact g_bad
def p21_law_refused_2_b (web1 : Web) : M (Flow (List Bool) Empty (List Bool)) :=
 (M.andThen (tryM k.G 0 ((p17_reached_2 web1).bind fun v2 =>
 .bad) fun x3 =>
 (M.of (subOf k.G x3 1)).bind fun b5 =>
 (M.of (subOf k.G x3 2)).bind fun b7 =>
 (M.of (subOf k.G x3 3)).bind fun b9 =>
 .ok (.nx [true, b5, b7, b9])) fun kinds11 =>
 .ok (.rt kinds11))
def p21_law_refused_2 (web1 : Web) : M (List Bool) := toM (p21_law_refused_2_b web1)
theorem p21_law_refused_2_ok {n : Nat} (h : 21 < n) (web1 : Web) : CF (fun a => (eL true PV.bl) a) (fun a : (List Bool) => [some ((eWeb false) web1), some (PV.str "0")]) (fun z : Unit => [some ((eWeb false) web1), some (PV.str "0")]) (F n 21 [((eWeb false) web1), (PV.str "0")]) (p21_law_refused_2 web1) := by
  rw [F_at h]
  refine run_simF (d := n21) (e := [(some ((eWeb false) web1)), (some (PV.str "0")), none, none]) rfl ?_
  refine c_set ?_
  refine z_ok (e_lstL (PV.int) ([] : List Int) s_nil rfl) ?_
  refine z_fz (fz_no _) ?_
  refine c_tryE (E := (fun (s : (List Bool)) (d : Option PV) => [(some ((eWeb false) web1)), (some (PV.str "0")), (some ((eL true PV.bl) s)), d])) (EX := (fun (z : Unit) => [(some ((eWeb false) web1)), (some (PV.str "0")), (some ((eL true PV.int) ([] : List Int))), none])) ?_ (fun _ => by simp) ?_ (fun _ _ => ⟨(), rfl⟩) ?_
  · refine c_expr ?_
    refine x_call ?_
    refine z_ok (a_e (e_q (q_rd (l_var rfl) rfl)) (fz_to (e := (eWeb false)) web1) (a_e (e_q (q_rd (l_var rfl) rfl)) fz_s a_nil)) ?_
    refine z_call (e2 := [(some ((eWeb false) web1)), (some (PV.str "0")), (some ((eL true PV.int) ([] : List Int))), none]) (E3 := fun a => [(some ((eWeb false) web1)), (some (PV.str "0")), (some ((eL true PV.int) ([] : List Int))), none]) rfl rfl (p17_reached_2_ok (n := 21) (by decide) web1) (fun _ => rfl) (fun _ _ => ⟨(), rfl⟩) ?_
    intro v2
    exact g_bad
  · intro x3 _
    refine g_of ?_
    intro b5 h6
    refine g_of ?_
    intro b7 h8
    refine g_of ?_
    intro b9 h10
    refine z_su (su_cons (su_lst (sa_cons rfl (sa_cons (sa_is h6) (sa_cons (sa_is h8) (sa_cons (sa_is h10) sa_nil))))) su_nil) ?_
    exact z_nx ⟨none, rfl⟩
  intro kinds11 d12
  refine c_ret ?_
  refine z_ok (e_mv rfl) ?_
  exact z_rt ⟨rfl, rfl⟩
def p3_is_whole_3_b  : M (Flow Unit Empty Unit) :=
 .ok (.rt ())
def p3_is_whole_3  : M Unit := toM (p3_is_whole_3_b )
theorem p3_is_whole_3_ok {n : Nat} (h : 3 < n)  : CF (fun a => (fun (_ : Unit) => PV.bl false) a) (fun a : Unit => [some PV.non]) (fun z : Unit => [some PV.non]) (F n 3 [PV.non]) (p3_is_whole_3 ) := by
  rw [F_at h]
  refine run_simF (d := n3) (e := [(some PV.non)]) rfl ?_
  refine c_ret ?_
  refine z_ok (e_and (d := true) (e_isi (q_rd (l_var rfl) rfl) (isi_ty rfl kt_NoneType_int)) (fun h => nomatch h)) ?_
  exact z_rt ⟨rfl, rfl⟩
def p4_whole_3_b (low1 : Int) (high2 : Int) : M (Flow Unit Empty Unit) :=
 (p3_is_whole_3).bind fun v3 =>
 (.exc 1)
def p4_whole_3 (low1 : Int) (high2 : Int) : M Unit := toM (p4_whole_3_b low1 high2)
theorem p4_whole_3_ok {n : Nat} (h : 4 < n) (low1 : Int) (high2 : Int) : CF (fun _ => PV.non) (fun a : Unit => [some PV.non, some (PV.int low1), some (PV.int high2)]) (fun z : Unit => [some PV.non, some (PV.int low1), some (PV.int high2)]) (F n 4 [PV.non, (PV.int low1), (PV.int high2)]) (p4_whole_3 low1 high2) := by
  rw [F_at h]
  refine run_simF (d := n4) (e := [(some PV.non), (some (PV.int low1)), (some (PV.int high2))]) rfl ?_
  refine c_ite ?_
  refine x_tnot ?_
  refine x_tv ?_
  refine x_Be ?_
  refine x_call ?_
  refine z_ok (a_e (e_q (q_rd (l_var rfl) rfl)) fz_n a_nil) ?_
  refine z_call (e2 := [(some PV.non), (some (PV.int low1)), (some (PV.int high2))]) (E3 := fun a => [(some PV.non), (some (PV.int low1)), (some (PV.int high2))]) rfl rfl (p3_is_whole_3_ok (n := 4) (by decide)) (fun _ => rfl) (fun _ _ => ⟨(), rfl⟩) ?_
  intro v3
  refine z_of rfl ?_
  refine z_ifT ?_
  exact c_raise ⟨(), rfl⟩
def p17_reached_3_b (web1 : Web) : M (Flow Unit Empty Unit) :=
 (p4_whole_3 (0 : Int) (web1.places - (1 : Int))).bind fun v2 =>
 .bad
def p17_reached_3 (web1 : Web) : M Unit := toM (p17_reached_3_b web1)
theorem p17_reached_3_ok {n : Nat} (h : 17 < n) (web1 : Web) : CF (fun _ => PV.non) (fun a : Unit => [some ((eWeb false) web1), some PV.non]) (fun z : Unit => [some ((eWeb false) web1), some PV.non]) (F n 17 [((eWeb false) web1), PV.non]) (p17_reached_3 web1) := by
  rw [F_at h]
  refine run_simF (d := n17) (e := [(some ((eWeb false) web1)), (some PV.non), none, none]) rfl ?_
  refine c_expr ?_
  refine x_call ?_
  refine z_ok (a_e (e_q (q_rd (l_var rfl) rfl)) fz_n (a_e (e_q rfl) (fz_to (e := PV.int) (0 : Int)) (a_e (e_bin (b_p (l_fld (l_var rfl) fx_6_0 rfl)) (b_e (e_q rfl)) rfl) (fz_to (e := PV.int) (web1.places - (1 : Int))) a_nil))) ?_
  refine z_call (e2 := [(some ((eWeb false) web1)), (some PV.non), none, none]) (E3 := fun a => [(some ((eWeb false) web1)), (some PV.non), none, none]) rfl rfl (p4_whole_3_ok (n := 17) (by decide) (0 : Int) (web1.places - (1 : Int))) (fun _ => rfl) (fun _ _ => ⟨(), rfl⟩) ?_
  intro v2
  exact g_bad
def p21_law_refused_3_b (web1 : Web) : M (Flow (List Bool) Empty (List Bool)) :=
 (M.andThen (tryM k.G 0 ((p17_reached_3 web1).bind fun v2 =>
 .bad) fun x3 =>
 (M.of (subOf k.G x3 1)).bind fun b5 =>
 (M.of (subOf k.G x3 2)).bind fun b7 =>
 (M.of (subOf k.G x3 3)).bind fun b9 =>
 .ok (.nx [true, b5, b7, b9])) fun kinds11 =>
 .ok (.rt kinds11))
def p21_law_refused_3 (web1 : Web) : M (List Bool) := toM (p21_law_refused_3_b web1)
theorem p21_law_refused_3_ok {n : Nat} (h : 21 < n) (web1 : Web) : CF (fun a => (eL true PV.bl) a) (fun a : (List Bool) => [some ((eWeb false) web1), some PV.non]) (fun z : Unit => [some ((eWeb false) web1), some PV.non]) (F n 21 [((eWeb false) web1), PV.non]) (p21_law_refused_3 web1) := by
  rw [F_at h]
  refine run_simF (d := n21) (e := [(some ((eWeb false) web1)), (some PV.non), none, none]) rfl ?_
  refine c_set ?_
  refine z_ok (e_lstL (PV.int) ([] : List Int) s_nil rfl) ?_
  refine z_fz (fz_no _) ?_
  refine c_tryE (E := (fun (s : (List Bool)) (d : Option PV) => [(some ((eWeb false) web1)), (some PV.non), (some ((eL true PV.bl) s)), d])) (EX := (fun (z : Unit) => [(some ((eWeb false) web1)), (some PV.non), (some ((eL true PV.int) ([] : List Int))), none])) ?_ (fun _ => by simp) ?_ (fun _ _ => ⟨(), rfl⟩) ?_
  · refine c_expr ?_
    refine x_call ?_
    refine z_ok (a_e (e_q (q_rd (l_var rfl) rfl)) (fz_to (e := (eWeb false)) web1) (a_e (e_q (q_rd (l_var rfl) rfl)) fz_n a_nil)) ?_
    refine z_call (e2 := [(some ((eWeb false) web1)), (some PV.non), (some ((eL true PV.int) ([] : List Int))), none]) (E3 := fun a => [(some ((eWeb false) web1)), (some PV.non), (some ((eL true PV.int) ([] : List Int))), none]) rfl rfl (p17_reached_3_ok (n := 21) (by decide) web1) (fun _ => rfl) (fun _ _ => ⟨(), rfl⟩) ?_
    intro v2
    exact g_bad
  · intro x3 _
    refine g_of ?_
    intro b5 h6
    refine g_of ?_
    intro b7 h8
    refine g_of ?_
    intro b9 h10
    refine z_su (su_cons (su_lst (sa_cons rfl (sa_cons (sa_is h6) (sa_cons (sa_is h8) (sa_cons (sa_is h10) sa_nil))))) su_nil) ?_
    exact z_nx ⟨none, rfl⟩
  intro kinds11 d12
  refine c_ret ?_
  refine z_ok (e_mv rfl) ?_
  exact z_rt ⟨rfl, rfl⟩
def p22_law_asks_c1  : Int → M (Flow Unit Empty (Option Int)) := fun place5 =>
 .ok (.rt none)
def p22_law_asks_c3 (v3 : (List (List Bool))) (place13 : Int) : Int → M (Flow Unit Empty Int) := fun q16 =>
 (M.of (atI v3 place13)).bind fun y19 =>
 (M.of (atI y19 q16)).bind fun y21 =>
 (if y21 then
 .ok (.rt q16)
else
 .ok (.nx ()))
def p22_law_asks_c4 (v3 : (List (List Bool))) (place13 : Int) : Int → M (Flow Unit Empty Int) := fun q30 =>
 (M.of (atI v3 place13)).bind fun y35 =>
 (M.of (atI y35 q30)).bind fun y37 =>
 (if y37 then
 (M.of (atI v3 q30)).bind fun y39 =>
 (M.of (atI y39 place13)).bind fun y41 =>
 (if y41 then
 .ok (.rt q30)
else
 .ok (.nx ()))
else
 .ok (.nx ()))
def p22_law_asks_f5 (due8 : (List (List Int))) : Int → (List (Option Int)) → M (Flow (List (Option Int)) (List (Option Int)) Bool) := fun q46 number44 =>
 (M.of (setI number44 q46 (some (due8.length : Int)))).bind fun number47 =>
 .ok (.nx number47)
def p22_law_asks_f2 (given1 : Web) (web2 : (Int × (List (Int × Int)) × (List (Int × Int)) × Int × Int)) (v3 : (List (List Bool))) : Int → ((List (List Int)) × (List (Option Int))) → M (Flow ((List (List Int)) × (List (Option Int))) ((List (List Int)) × (List (Option Int))) Bool) := fun place13 (due8, number9) =>
 (p17_reached given1 place13).bind fun v14 =>
 (gd (rgOk web2.1)).bind fun _ =>
 (gd (sOk (rangeI 0 web2.1).length)).bind fun _ => (lcF (p22_law_asks_c3 v3 place13) (rangeI 0 web2.1)).bind fun l23 =>
 (p14_law_ints v14 l23).bind fun v24 =>
 (if (!v24) then
 .ok (.rt false)
else
 (M.of (atI number9 place13)).bind fun y27 =>
 (if y27.isNone then
 (gd (rgOk web2.1)).bind fun _ =>
 (gd (sOk (rangeI 0 web2.1).length)).bind fun _ => (lcF (p22_law_asks_c4 v3 place13) (rangeI 0 web2.1)).bind fun l43 =>
 (M.andThen (forF (p22_law_asks_f5 due8) l43 number9) fun number49 =>
 (gd (decide (due8.length < sizeLine))).bind fun _ =>
 .ok (.nx ((due8 ++ [l43]), number49)))
else
 .ok (.nx (due8, number9))))
def p22_law_asks_f6 (v57 : (List (List Int))) (due52 : (List (List Int))) : Int → Unit → M (Flow Unit Unit Bool) := fun k60 _ =>
 (M.of (atI v57 k60)).bind fun y61 =>
 (M.of (atI due52 k60)).bind fun y63 =>
 (p14_law_ints y61 y63).bind fun v65 =>
 (if (!v65) then
 .ok (.rt false)
else
 .ok (.nx ()))
def p22_law_asks_b (given1 : Web) (web2 : (Int × (List (Int × Int)) × (List (Int × Int)) × Int × Int)) : M (Flow Bool Empty Bool) :=
 (p11_law_reaches web2).bind fun v3 =>
 (gd (rgOk web2.1)).bind fun _ =>
 (gd (sOk (rangeI 0 web2.1).length)).bind fun _ => (lcF (p22_law_asks_c1) (rangeI 0 web2.1)).bind fun l6 =>
 (gd (rgOk web2.1)).bind fun _ =>
 (M.andThen (forF (p22_law_asks_f2 given1 web2 v3) (rangeI 0 web2.1) (([] : List (List Int)), l6)) fun (due52, number53) =>
 (p19_knots given1).bind fun v57 =>
 (if ((!true) || (!decide ((v57.length : Int) = (due52.length : Int)))) then
 .ok (.rt false)
else
 (gd (rgOk (due52.length : Int))).bind fun _ =>
 (M.andThen (forF (p22_law_asks_f6 v57 due52) (rangeI 0 (due52.length : Int)) ()) fun _ =>
 (p20_knot_of given1).bind fun v67 =>
 (p14_law_ints_1 v67 number53).bind fun v68 =>
 (if (!v68) then
 .ok (.rt false)
else
 (M.andThen ((p21_law_refused given1 (-1 : Int)).bind fun v69 =>
 (if (!decide (v69 = [true, true, false, false])) then
 .ok (.rt false)
else
 .ok (.nx ()))) fun _ =>
 (M.andThen ((p21_law_refused given1 web2.1).bind fun v71 =>
 (if (!decide (v71 = [true, true, false, false])) then
 .ok (.rt false)
else
 .ok (.nx ()))) fun _ =>
 (M.andThen ((p21_law_refused_1 given1 true).bind fun v73 =>
 (if (!decide (v73 = [true, true, false, false])) then
 .ok (.rt false)
else
 .ok (.nx ()))) fun _ =>
 (M.andThen ((p21_law_refused_2 given1).bind fun v75 =>
 (if (!decide (v75 = [true, true, false, false])) then
 .ok (.rt false)
else
 .ok (.nx ()))) fun _ =>
 (M.andThen ((p21_law_refused_3 given1).bind fun v77 =>
 (if (!decide (v77 = [true, true, false, false])) then
 .ok (.rt false)
else
 .ok (.nx ()))) fun _ =>
 .ok (.rt true))))))))))
def p22_law_asks (given1 : Web) (web2 : (Int × (List (Int × Int)) × (List (Int × Int)) × Int × Int)) : M Bool := toM (p22_law_asks_b given1 web2)
theorem p22_law_asks_ok {n : Nat} (h : 22 < n) (given1 : Web) (web2 : (Int × (List (Int × Int)) × (List (Int × Int)) × Int × Int)) : CF (fun a => PV.bl a) (fun a : Bool => [some ((eWeb false) given1), some ((eH5 false PV.int (eL false (eT2 PV.int PV.int)) (eL false (eT2 PV.int PV.int)) PV.int PV.int) web2)]) (fun z : Unit => [some ((eWeb false) given1), some ((eH5 false PV.int (eL false (eT2 PV.int PV.int)) (eL false (eT2 PV.int PV.int)) PV.int PV.int) web2)]) (F n 22 [((eWeb false) given1), ((eH5 false PV.int (eL false (eT2 PV.int PV.int)) (eL false (eT2 PV.int PV.int)) PV.int PV.int) web2)]) (p22_law_asks given1 web2) := by
  rw [F_at h]
  refine run_simF (d := n22) (e := [(some ((eWeb false) given1)), (some ((eH5 false PV.int (eL false (eT2 PV.int PV.int)) (eL false (eT2 PV.int PV.int)) PV.int PV.int) web2)), none, none, none, none, none, none, none, none, none]) rfl ?_
  refine c_set ?_
  refine x_call ?_
  refine z_ok (a_e (e_q (q_rd (l_var rfl) rfl)) (fz_to (e := (eH5 false PV.int (eL false (eT2 PV.int PV.int)) (eL false (eT2 PV.int PV.int)) PV.int PV.int)) web2) a_nil) ?_
  refine z_call (e2 := [(some ((eWeb false) given1)), (some ((eH5 false PV.int (eL false (eT2 PV.int PV.int)) (eL false (eT2 PV.int PV.int)) PV.int PV.int) web2)), none, none, none, none, none, none, none, none, none]) (E3 := fun a => [(some ((eWeb false) given1)), (some ((eH5 false PV.int (eL false (eT2 PV.int PV.int)) (eL false (eT2 PV.int PV.int)) PV.int PV.int) web2)), none, none, none, none, none, none, none, none, none]) rfl rfl (p11_law_reaches_ok (n := 22) (by decide) web2) (fun _ => rfl) (fun _ _ => ⟨(), rfl⟩) ?_
  intro v3
  refine z_fz (fz_to (e := (eL true (eL true PV.bl))) v3) ?_
  refine c_set ?_
  refine z_ok (e_lstL ((eL false PV.int)) ([] : List (List Int)) s_nil rfl) ?_
  refine z_fz (fz_no _) ?_
  refine c_set ?_
  refine x_lc ?_
  refine x_r1 ?_
  refine z_ok (e_q (q_rd (l_ixH (l_var rfl) rfl rfl) rfl)) ?_
  refine g_gd ?_
  intro h4
  refine z_of (w_r1 h4) ?_
  refine z_lc (f := (p22_law_asks_c1)) (e' := (eO PV.int)) rfl ?_ ?_
  · intro place5
    refine ⟨_, (tp_one (e := PV.int)), ?_⟩
    refine z_ok ta_nil ?_
    refine z_ifT ?_
    refine z_ok (e_q rfl) ?_
    exact z_rt ⟨rfl, rfl⟩
  intro l6
  refine z_fz (fz_no _) ?_
  refine c_for ?_
  refine x_r1 ?_
  refine z_ok (e_q (q_rd (l_ixH (l_var rfl) rfl rfl) rfl)) ?_
  refine g_gd ?_
  intro h7
  refine z_of (w_r1 h7) ?_
  refine z_for (E := (fun (s : ((List (List Int)) × (List (Option Int)))) (d : Option PV × Option PV × Option PV) => [(some ((eWeb false) given1)), (some ((eH5 false PV.int (eL false (eT2 PV.int PV.int)) (eL false (eT2 PV.int PV.int)) PV.int PV.int) web2)), (some ((eL false (eL false PV.bl)) v3)), (some ((eL true (eL false PV.int)) s.1)), d.1, (some ((eL true (eO PV.int)) s.2)), d.2.1, d.2.2, none, none, none])) (f := (p22_law_asks_f2 given1 web2 v3)) (s0 := (([] : List (List Int)), l6)) (none, none, none) rfl ?_ ?_
  · rintro place13 ⟨due8, number9⟩ ⟨d10, d11, d12⟩
    refine ⟨_, (tp_one (e := PV.int)), ?_⟩
    refine c_ite ?_
    refine x_tnot ?_
    refine x_tv ?_
    refine x_Be ?_
    refine x_call ?_
    refine xv_e ?_
    refine x_call ?_
    refine z_ok (a_e (e_q (q_rd (l_var rfl) rfl)) (fz_to (e := (eWeb false)) given1) (a_e (e_q (q_rd (l_var rfl) rfl)) (fz_to (e := PV.int) place13) a_nil)) ?_
    refine z_call (e2 := [(some ((eWeb false) given1)), (some ((eH5 false PV.int (eL false (eT2 PV.int PV.int)) (eL false (eT2 PV.int PV.int)) PV.int PV.int) web2)), (some ((eL false (eL false PV.bl)) v3)), (some ((eL true (eL false PV.int)) due8)), (some (PV.int place13)), (some ((eL true (eO PV.int)) number9)), d11, d12, none, none, none]) (E3 := fun a => [(some ((eWeb false) given1)), (some ((eH5 false PV.int (eL false (eT2 PV.int PV.int)) (eL false (eT2 PV.int PV.int)) PV.int PV.int) web2)), (some ((eL false (eL false PV.bl)) v3)), (some ((eL true (eL false PV.int)) due8)), (some (PV.int place13)), (some ((eL true (eO PV.int)) number9)), d11, d12, none, none, none]) rfl rfl (p17_reached_ok (n := 22) (by decide) given1 place13) (fun _ => rfl) (fun _ _ => ⟨(), rfl⟩) ?_
    intro v14
    refine xv_e ?_
    refine x_lc ?_
    refine x_r1 ?_
    refine z_ok (e_q (q_rd (l_ixH (l_var rfl) rfl rfl) rfl)) ?_
    refine g_gd ?_
    intro h15
    refine z_of (w_r1 h15) ?_
    refine z_lc (f := (p22_law_asks_c3 v3 place13)) (e' := PV.int) rfl ?_ ?_
    · intro q16
      refine ⟨_, (tp_one (e := PV.int)), ?_⟩
      refine xta_cons ?_
      refine g_of ?_
      intro y19 h20
      refine g_of ?_
      intro y21 h22
      refine z_ok (t_v (b_p (l_ixL (l_ixL (l_var rfl) (q_rd (l_var rfl) rfl) h20) (q_rd (l_var rfl) rfl) h22)) rfl) ?_
      refine z_ifb ?_ ?_
      · refine xta_nil ?_
        refine z_ifT ?_
        refine z_ok (e_q (q_rd (l_var rfl) rfl)) ?_
        exact z_rt ⟨rfl, rfl⟩
      refine z_ok rfl ?_
      refine z_ifF ?_
      exact z_nx rfl
    intro l23
    refine xv_nil ?_
    refine z_call (e2 := [(some ((eWeb false) given1)), (some ((eH5 false PV.int (eL false (eT2 PV.int PV.int)) (eL false (eT2 PV.int PV.int)) PV.int PV.int) web2)), (some ((eL false (eL false PV.bl)) v3)), (some ((eL true (eL false PV.int)) due8)), (some (PV.int place13)), (some ((eL true (eO PV.int)) number9)), (rst d11), d12, none, none, none]) (E3 := fun a => [(some ((eWeb false) given1)), (some ((eH5 false PV.int (eL false (eT2 PV.int PV.int)) (eL false (eT2 PV.int PV.int)) PV.int PV.int) web2)), (some ((eL false (eL false PV.bl)) v3)), (some ((eL true (eL false PV.int)) due8)), (some (PV.int place13)), (some ((eL true (eO PV.int)) number9)), (rst d11), d12, none, none, none]) rfl (ce (fz_to (e := (eV PV.int)) v14) (ce (fz_to (e := (eL true PV.int)) l23) rfl)) (p14_law_ints_ok (n := 22) (by decide) v14 l23) (fun _ => rfl) (fun _ _ => ⟨(), rfl⟩) ?_
    intro v24
    refine z_of rfl ?_
    refine z_ifs ?_ ?_
    · refine c_ret ?_
      refine z_ok (e_q rfl) ?_
      exact z_rt ⟨rfl, rfl⟩
    refine c_ite ?_
    refine g_of ?_
    intro y27 h28
    refine z_ok (t_cmp (b_p (l_ixL (l_var rfl) (q_rd (l_var rfl) rfl) h28)) (b_e (e_q rfl)) (c_isO (fun _ => rfl))) ?_
    refine z_ifs ?_ ?_
    · refine c_set ?_
      refine x_lc ?_
      refine x_r1 ?_
      refine z_ok (e_q (q_rd (l_ixH (l_var rfl) rfl rfl) rfl)) ?_
      refine g_gd ?_
      intro h29
      refine z_of (w_r1 h29) ?_
      refine z_lc (f := (p22_law_asks_c4 v3 place13)) (e' := PV.int) rfl ?_ ?_
      · intro q30
        refine ⟨_, (tp_one (e := PV.int)), ?_⟩
        refine xta_cons ?_
        refine x_tand ?_
        refine xta_cons ?_
        refine g_of ?_
        intro y35 h36
        refine g_of ?_
        intro y37 h38
        refine z_ok (t_v (b_p (l_ixL (l_ixL (l_var rfl) (q_rd (l_var rfl) rfl) h36) (q_rd (l_var rfl) rfl) h38)) rfl) ?_
        refine z_ifb ?_ ?_
        · refine xta_cons ?_
          refine g_of ?_
          intro y39 h40
          refine g_of ?_
          intro y41 h42
          refine z_ok (t_v (b_p (l_ixL (l_ixL (l_var rfl) (q_rd (l_var rfl) rfl) h40) (q_rd (l_var rfl) rfl) h42)) rfl) ?_
          refine z_ifb ?_ ?_
          · refine xta_nil ?_
            refine z_ifbT ?_
            refine xta_nil ?_
            refine z_ifT ?_
            refine z_ok (e_q (q_rd (l_var rfl) rfl)) ?_
            exact z_rt ⟨rfl, rfl⟩
          refine z_ok rfl ?_
          refine z_ifbF ?_
          refine z_ok rfl ?_
          refine z_ifF ?_
          exact z_nx rfl
        refine z_ok rfl ?_
        refine z_ifbF ?_
        refine z_ok rfl ?_
        refine z_ifF ?_
        exact z_nx rfl
      intro l43
      refine z_fz (fz_to (e := (eL true PV.int)) l43) ?_
      refine c_for ?_
      refine x_ie ?_
      refine z_ok (e_q (q_rd (l_var rfl) rfl)) ?_
      refine z_of w_L ?_
      refine z_for (E := (fun (s : (List (Option Int))) (d : Option PV) => [(some ((eWeb false) given1)), (some ((eH5 false PV.int (eL false (eT2 PV.int PV.int)) (eL false (eT2 PV.int PV.int)) PV.int PV.int) web2)), (some ((eL false (eL false PV.bl)) v3)), (some ((eL true (eL false PV.int)) due8)), (some (PV.int place13)), (some ((eL true (eO PV.int)) s)), d, (some ((eL false PV.int) l43)), none, none, none])) (f := (p22_law_asks_f5 due8)) (s0 := number9) (rst (rst d11)) rfl ?_ ?_
      · intro q46 number44 d45
        refine ⟨_, (tp_one (e := PV.int)), ?_⟩
        refine c_setIx ?_
        refine z_ok (e_q (q_lenL (l_var rfl))) ?_
        refine g_of ?_
        intro number47 h48
        refine z_on (j_setI (en := (eO PV.int)) (y := (some (due8.length : Int))) rfl (q_rd (l_var rfl) rfl) h48) ?_
        exact c_nil ⟨(some (PV.int q46)), rfl⟩
      intro number49 d50
      refine g_gd ?_
      intro h51
      refine c_appQ (en := (eL false PV.int)) (y := l43) rfl (q_rd (l_var rfl) rfl) h51 ?_
      exact c_nil ⟨((some (PV.int place13)), d50, (some ((eL false PV.int) l43))), rfl⟩
    exact c_nil ⟨((some (PV.int place13)), (rst d11), d12), rfl⟩
  rintro ⟨due52, number53⟩ ⟨d54, d55, d56⟩
  refine c_set ?_
  refine x_call ?_
  refine z_ok (a_e (e_q (q_rd (l_var rfl) rfl)) (fz_to (e := (eWeb false)) given1) a_nil) ?_
  refine z_call (e2 := [(some ((eWeb false) given1)), (some ((eH5 false PV.int (eL false (eT2 PV.int PV.int)) (eL false (eT2 PV.int PV.int)) PV.int PV.int) web2)), (some ((eL false (eL false PV.bl)) v3)), (some ((eL true (eL false PV.int)) due52)), d54, (some ((eL true (eO PV.int)) number53)), d55, d56, none, none, none]) (E3 := fun a => [(some ((eWeb false) given1)), (some ((eH5 false PV.int (eL false (eT2 PV.int PV.int)) (eL false (eT2 PV.int PV.int)) PV.int PV.int) web2)), (some ((eL false (eL false PV.bl)) v3)), (some ((eL true (eL false PV.int)) due52)), d54, (some ((eL true (eO PV.int)) number53)), d55, d56, none, none, none]) rfl rfl (p19_knots_ok (n := 22) (by decide) given1) (fun _ => rfl) (fun _ _ => ⟨(), rfl⟩) ?_
  intro v57
  refine z_fz (fz_to (e := (eV (eV PV.int))) v57) ?_
  refine c_ite ?_
  refine z_ok (t_or (to_cons (t_not (t_v (b_e (e_isi (q_rd (l_var rfl) rfl) (isi_ty rfl kt_tuple_tuple))) rfl)) (fun _ => (to_one (t_cmp (b_e (e_q (q_lenV (l_var rfl)))) (b_e (e_q (q_lenL (l_var rfl)))) (c_ne (e := PV.int) (a := (v57.length : Int)) (b := (due52.length : Int)) (by decide))))))) ?_
  refine z_ifs ?_ ?_
  · refine c_ret ?_
    refine z_ok (e_q rfl) ?_
    exact z_rt ⟨rfl, rfl⟩
  refine c_for ?_
  refine x_r1 ?_
  refine z_ok (e_q (q_lenL (l_var rfl))) ?_
  refine g_gd ?_
  intro h58
  refine z_of (w_r1 h58) ?_
  refine z_for (E := (fun (s : Unit) (d : Option PV) => [(some ((eWeb false) given1)), (some ((eH5 false PV.int (eL false (eT2 PV.int PV.int)) (eL false (eT2 PV.int PV.int)) PV.int PV.int) web2)), (some ((eL false (eL false PV.bl)) v3)), (some ((eL true (eL false PV.int)) due52)), d54, (some ((eL true (eO PV.int)) number53)), d55, d56, (some ((eV (eV PV.int)) v57)), d, none])) (f := (p22_law_asks_f6 v57 due52)) (s0 := ()) none rfl ?_ ?_
  · intro k60 _ d59
    refine ⟨_, (tp_one (e := PV.int)), ?_⟩
    refine c_ite ?_
    refine x_tnot ?_
    refine x_tv ?_
    refine x_Be ?_
    refine x_call ?_
    refine g_of ?_
    intro y61 h62
    refine g_of ?_
    intro y63 h64
    refine z_ok (a_e (e_q (q_rd (l_ixV (l_var rfl) (q_rd (l_var rfl) rfl) h62) rfl)) (fz_to (e := (eV PV.int)) y61) (a_e (e_q (q_rd (l_ixL (l_var rfl) (q_rd (l_var rfl) rfl) h64) rfl)) (fz_to (e := (eL false PV.int)) y63) a_nil)) ?_
    refine z_call (e2 := [(some ((eWeb false) given1)), (some ((eH5 false PV.int (eL false (eT2 PV.int PV.int)) (eL false (eT2 PV.int PV.int)) PV.int PV.int) web2)), (some ((eL false (eL false PV.bl)) v3)), (some ((eL true (eL false PV.int)) due52)), d54, (some ((eL true (eO PV.int)) number53)), d55, d56, (some ((eV (eV PV.int)) v57)), (some (PV.int k60)), none]) (E3 := fun a => [(some ((eWeb false) given1)), (some ((eH5 false PV.int (eL false (eT2 PV.int PV.int)) (eL false (eT2 PV.int PV.int)) PV.int PV.int) web2)), (some ((eL false (eL false PV.bl)) v3)), (some ((eL true (eL false PV.int)) due52)), d54, (some ((eL true (eO PV.int)) number53)), d55, d56, (some ((eV (eV PV.int)) v57)), (some (PV.int k60)), none]) rfl rfl (p14_law_ints_ok (n := 22) (by decide) y61 y63) (fun _ => rfl) (fun _ _ => ⟨(), rfl⟩) ?_
    intro v65
    refine z_of rfl ?_
    refine z_ifs ?_ ?_
    · refine c_ret ?_
      refine z_ok (e_q rfl) ?_
      exact z_rt ⟨rfl, rfl⟩
    exact c_nil ⟨(some (PV.int k60)), rfl⟩
  intro _ d66
  refine c_ite ?_
  refine x_tnot ?_
  refine x_tv ?_
  refine x_Be ?_
  refine x_call ?_
  refine xv_e ?_
  refine x_call ?_
  refine z_ok (a_e (e_q (q_rd (l_var rfl) rfl)) (fz_to (e := (eWeb false)) given1) a_nil) ?_
  refine z_call (e2 := [(some ((eWeb false) given1)), (some ((eH5 false PV.int (eL false (eT2 PV.int PV.int)) (eL false (eT2 PV.int PV.int)) PV.int PV.int) web2)), (some ((eL false (eL false PV.bl)) v3)), (some ((eL true (eL false PV.int)) due52)), d54, (some ((eL true (eO PV.int)) number53)), d55, d56, (some ((eV (eV PV.int)) v57)), d66, none]) (E3 := fun a => [(some ((eWeb false) given1)), (some ((eH5 false PV.int (eL false (eT2 PV.int PV.int)) (eL false (eT2 PV.int PV.int)) PV.int PV.int) web2)), (some ((eL false (eL false PV.bl)) v3)), (some ((eL true (eL false PV.int)) due52)), d54, (some ((eL true (eO PV.int)) number53)), d55, d56, (some ((eV (eV PV.int)) v57)), d66, none]) rfl rfl (p20_knot_of_ok (n := 22) (by decide) given1) (fun _ => rfl) (fun _ _ => ⟨(), rfl⟩) ?_
  intro v67
  refine xv_e ?_
  refine z_ok (e_fz (e := (eL true (eO PV.int))) (a := number53) rfl) ?_
  refine xv_nil ?_
  refine z_call (e2 := [(some ((eWeb false) given1)), (some ((eH5 false PV.int (eL false (eT2 PV.int PV.int)) (eL false (eT2 PV.int PV.int)) PV.int PV.int) web2)), (some ((eL false (eL false PV.bl)) v3)), (some ((eL true (eL false PV.int)) due52)), d54, (some ((eL false (eO PV.int)) number53)), d55, d56, (some ((eV (eV PV.int)) v57)), d66, none]) (E3 := fun a => [(some ((eWeb false) given1)), (some ((eH5 false PV.int (eL false (eT2 PV.int PV.int)) (eL false (eT2 PV.int PV.int)) PV.int PV.int) web2)), (some ((eL false (eL false PV.bl)) v3)), (some ((eL true (eL false PV.int)) due52)), d54, (some ((eL false (eO PV.int)) number53)), d55, d56, (some ((eV (eV PV.int)) v57)), d66, none]) rfl (ce (fz_to (e := (eV PV.int)) v67) (ce (fz_to (e := (eL false (eO PV.int))) number53) rfl)) (p14_law_ints_1_ok (n := 22) (by decide) v67 number53) (fun _ => rfl) (fun _ _ => ⟨(), rfl⟩) ?_
  intro v68
  refine z_of rfl ?_
  refine z_ifs ?_ ?_
  · refine c_ret ?_
    refine z_ok (e_q rfl) ?_
    exact z_rt ⟨rfl, rfl⟩
  refine c_for ?_
  refine x_ie ?_
  refine z_ok (e_lst (s_cons (e_q (q_neg rfl)) (s_cons (e_q (q_rd (l_ixH (l_var rfl) rfl rfl) rfl)) (s_cons (e_q rfl) (s_cons (e_q rfl) (s_cons (e_q rfl) s_nil))))) rfl) ?_
  refine z_of rfl ?_
  refine z_for1 (E := (fun (s : Unit) (d : Option PV) => [(some ((eWeb false) given1)), (some ((eH5 false PV.int (eL false (eT2 PV.int PV.int)) (eL false (eT2 PV.int PV.int)) PV.int PV.int) web2)), (some ((eL false (eL false PV.bl)) v3)), (some ((eL true (eL false PV.int)) due52)), d54, (some ((eL false (eO PV.int)) number53)), d55, d56, (some ((eV (eV PV.int)) v57)), d66, d])) rfl ?_ ?_
  · refine c_ite ?_
    refine x_tcmp ?_
    refine x_Be ?_
    refine x_call ?_
    refine z_ok (a_e (e_q (q_rd (l_var rfl) rfl)) (fz_to (e := (eWeb false)) given1) (a_e (e_q (q_rd (l_var rfl) rfl)) (fz_to (e := PV.int) (-1 : Int)) a_nil)) ?_
    refine z_call (e2 := [(some ((eWeb false) given1)), (some ((eH5 false PV.int (eL false (eT2 PV.int PV.int)) (eL false (eT2 PV.int PV.int)) PV.int PV.int) web2)), (some ((eL false (eL false PV.bl)) v3)), (some ((eL true (eL false PV.int)) due52)), d54, (some ((eL false (eO PV.int)) number53)), d55, d56, (some ((eV (eV PV.int)) v57)), d66, (some (PV.int (-1 : Int)))]) (E3 := fun a => [(some ((eWeb false) given1)), (some ((eH5 false PV.int (eL false (eT2 PV.int PV.int)) (eL false (eT2 PV.int PV.int)) PV.int PV.int) web2)), (some ((eL false (eL false PV.bl)) v3)), (some ((eL true (eL false PV.int)) due52)), d54, (some ((eL false (eO PV.int)) number53)), d55, d56, (some ((eV (eV PV.int)) v57)), d66, (some (PV.int (-1 : Int)))]) rfl rfl (p21_law_refused_ok (n := 22) (by decide) given1 (-1 : Int)) (fun _ => rfl) (fun _ _ => ⟨(), rfl⟩) ?_
    intro v69
    refine z_ok (b_e (e_lstL (PV.bl) [true, true, false, false] (s_cons (e_q rfl) (s_cons (e_q rfl) (s_cons (e_q rfl) (s_cons (e_q rfl) s_nil)))) rfl)) ?_
    refine z_of (c_ne (e := (eL true PV.bl)) (a := v69) (b := [true, true, false, false]) (by decide)) ?_
    refine z_ifs ?_ ?_
    · refine c_ret ?_
      refine z_ok (e_q rfl) ?_
      exact z_rt ⟨rfl, rfl⟩
    exact c_nil ⟨(some (PV.int (-1 : Int))), rfl⟩
  intro _ d70
  refine z_for1 (E := (fun (s : Unit) (d : Option PV) => [(some ((eWeb false) given1)), (some ((eH5 false PV.int (eL false (eT2 PV.int PV.int)) (eL false (eT2 PV.int PV.int)) PV.int PV.int) web2)), (some ((eL false (eL false PV.bl)) v3)), (some ((eL true (eL false PV.int)) due52)), d54, (some ((eL false (eO PV.int)) number53)), d55, d56, (some ((eV (eV PV.int)) v57)), d66, d])) rfl ?_ ?_
  · refine c_ite ?_
    refine x_tcmp ?_
    refine x_Be ?_
    refine x_call ?_
    refine z_ok (a_e (e_q (q_rd (l_var rfl) rfl)) (fz_to (e := (eWeb false)) given1) (a_e (e_q (q_rd (l_var rfl) rfl)) (fz_to (e := PV.int) web2.1) a_nil)) ?_
    refine z_call (e2 := [(some ((eWeb false) given1)), (some ((eH5 false PV.int (eL false (eT2 PV.int PV.int)) (eL false (eT2 PV.int PV.int)) PV.int PV.int) web2)), (some ((eL false (eL false PV.bl)) v3)), (some ((eL true (eL false PV.int)) due52)), d54, (some ((eL false (eO PV.int)) number53)), d55, d56, (some ((eV (eV PV.int)) v57)), d66, (some (PV.int web2.1))]) (E3 := fun a => [(some ((eWeb false) given1)), (some ((eH5 false PV.int (eL false (eT2 PV.int PV.int)) (eL false (eT2 PV.int PV.int)) PV.int PV.int) web2)), (some ((eL false (eL false PV.bl)) v3)), (some ((eL true (eL false PV.int)) due52)), d54, (some ((eL false (eO PV.int)) number53)), d55, d56, (some ((eV (eV PV.int)) v57)), d66, (some (PV.int web2.1))]) rfl rfl (p21_law_refused_ok (n := 22) (by decide) given1 web2.1) (fun _ => rfl) (fun _ _ => ⟨(), rfl⟩) ?_
    intro v71
    refine z_ok (b_e (e_lstL (PV.bl) [true, true, false, false] (s_cons (e_q rfl) (s_cons (e_q rfl) (s_cons (e_q rfl) (s_cons (e_q rfl) s_nil)))) rfl)) ?_
    refine z_of (c_ne (e := (eL true PV.bl)) (a := v71) (b := [true, true, false, false]) (by decide)) ?_
    refine z_ifs ?_ ?_
    · refine c_ret ?_
      refine z_ok (e_q rfl) ?_
      exact z_rt ⟨rfl, rfl⟩
    exact c_nil ⟨(some (PV.int web2.1)), rfl⟩
  intro _ d72
  refine z_for1 (E := (fun (s : Unit) (d : Option PV) => [(some ((eWeb false) given1)), (some ((eH5 false PV.int (eL false (eT2 PV.int PV.int)) (eL false (eT2 PV.int PV.int)) PV.int PV.int) web2)), (some ((eL false (eL false PV.bl)) v3)), (some ((eL true (eL false PV.int)) due52)), d54, (some ((eL false (eO PV.int)) number53)), d55, d56, (some ((eV (eV PV.int)) v57)), d66, d])) rfl ?_ ?_
  · refine c_ite ?_
    refine x_tcmp ?_
    refine x_Be ?_
    refine x_call ?_
    refine z_ok (a_e (e_q (q_rd (l_var rfl) rfl)) (fz_to (e := (eWeb false)) given1) (a_e (e_q (q_rd (l_var rfl) rfl)) (fz_to (e := PV.bl) true) a_nil)) ?_
    refine z_call (e2 := [(some ((eWeb false) given1)), (some ((eH5 false PV.int (eL false (eT2 PV.int PV.int)) (eL false (eT2 PV.int PV.int)) PV.int PV.int) web2)), (some ((eL false (eL false PV.bl)) v3)), (some ((eL true (eL false PV.int)) due52)), d54, (some ((eL false (eO PV.int)) number53)), d55, d56, (some ((eV (eV PV.int)) v57)), d66, (some (PV.bl true))]) (E3 := fun a => [(some ((eWeb false) given1)), (some ((eH5 false PV.int (eL false (eT2 PV.int PV.int)) (eL false (eT2 PV.int PV.int)) PV.int PV.int) web2)), (some ((eL false (eL false PV.bl)) v3)), (some ((eL true (eL false PV.int)) due52)), d54, (some ((eL false (eO PV.int)) number53)), d55, d56, (some ((eV (eV PV.int)) v57)), d66, (some (PV.bl true))]) rfl rfl (p21_law_refused_1_ok (n := 22) (by decide) given1 true) (fun _ => rfl) (fun _ _ => ⟨(), rfl⟩) ?_
    intro v73
    refine z_ok (b_e (e_lstL (PV.bl) [true, true, false, false] (s_cons (e_q rfl) (s_cons (e_q rfl) (s_cons (e_q rfl) (s_cons (e_q rfl) s_nil)))) rfl)) ?_
    refine z_of (c_ne (e := (eL true PV.bl)) (a := v73) (b := [true, true, false, false]) (by decide)) ?_
    refine z_ifs ?_ ?_
    · refine c_ret ?_
      refine z_ok (e_q rfl) ?_
      exact z_rt ⟨rfl, rfl⟩
    exact c_nil ⟨(some (PV.bl true)), rfl⟩
  intro _ d74
  refine z_for1 (E := (fun (s : Unit) (d : Option PV) => [(some ((eWeb false) given1)), (some ((eH5 false PV.int (eL false (eT2 PV.int PV.int)) (eL false (eT2 PV.int PV.int)) PV.int PV.int) web2)), (some ((eL false (eL false PV.bl)) v3)), (some ((eL true (eL false PV.int)) due52)), d54, (some ((eL false (eO PV.int)) number53)), d55, d56, (some ((eV (eV PV.int)) v57)), d66, d])) rfl ?_ ?_
  · refine c_ite ?_
    refine x_tcmp ?_
    refine x_Be ?_
    refine x_call ?_
    refine z_ok (a_e (e_q (q_rd (l_var rfl) rfl)) (fz_to (e := (eWeb false)) given1) (a_e (e_q (q_rd (l_var rfl) rfl)) fz_s a_nil)) ?_
    refine z_call (e2 := [(some ((eWeb false) given1)), (some ((eH5 false PV.int (eL false (eT2 PV.int PV.int)) (eL false (eT2 PV.int PV.int)) PV.int PV.int) web2)), (some ((eL false (eL false PV.bl)) v3)), (some ((eL true (eL false PV.int)) due52)), d54, (some ((eL false (eO PV.int)) number53)), d55, d56, (some ((eV (eV PV.int)) v57)), d66, (some (PV.str "0"))]) (E3 := fun a => [(some ((eWeb false) given1)), (some ((eH5 false PV.int (eL false (eT2 PV.int PV.int)) (eL false (eT2 PV.int PV.int)) PV.int PV.int) web2)), (some ((eL false (eL false PV.bl)) v3)), (some ((eL true (eL false PV.int)) due52)), d54, (some ((eL false (eO PV.int)) number53)), d55, d56, (some ((eV (eV PV.int)) v57)), d66, (some (PV.str "0"))]) rfl rfl (p21_law_refused_2_ok (n := 22) (by decide) given1) (fun _ => rfl) (fun _ _ => ⟨(), rfl⟩) ?_
    intro v75
    refine z_ok (b_e (e_lstL (PV.bl) [true, true, false, false] (s_cons (e_q rfl) (s_cons (e_q rfl) (s_cons (e_q rfl) (s_cons (e_q rfl) s_nil)))) rfl)) ?_
    refine z_of (c_ne (e := (eL true PV.bl)) (a := v75) (b := [true, true, false, false]) (by decide)) ?_
    refine z_ifs ?_ ?_
    · refine c_ret ?_
      refine z_ok (e_q rfl) ?_
      exact z_rt ⟨rfl, rfl⟩
    exact c_nil ⟨(some (PV.str "0")), rfl⟩
  intro _ d76
  refine z_for1 (E := (fun (s : Unit) (d : Option PV) => [(some ((eWeb false) given1)), (some ((eH5 false PV.int (eL false (eT2 PV.int PV.int)) (eL false (eT2 PV.int PV.int)) PV.int PV.int) web2)), (some ((eL false (eL false PV.bl)) v3)), (some ((eL true (eL false PV.int)) due52)), d54, (some ((eL false (eO PV.int)) number53)), d55, d56, (some ((eV (eV PV.int)) v57)), d66, d])) rfl ?_ ?_
  · refine c_ite ?_
    refine x_tcmp ?_
    refine x_Be ?_
    refine x_call ?_
    refine z_ok (a_e (e_q (q_rd (l_var rfl) rfl)) (fz_to (e := (eWeb false)) given1) (a_e (e_q (q_rd (l_var rfl) rfl)) fz_n a_nil)) ?_
    refine z_call (e2 := [(some ((eWeb false) given1)), (some ((eH5 false PV.int (eL false (eT2 PV.int PV.int)) (eL false (eT2 PV.int PV.int)) PV.int PV.int) web2)), (some ((eL false (eL false PV.bl)) v3)), (some ((eL true (eL false PV.int)) due52)), d54, (some ((eL false (eO PV.int)) number53)), d55, d56, (some ((eV (eV PV.int)) v57)), d66, (some PV.non)]) (E3 := fun a => [(some ((eWeb false) given1)), (some ((eH5 false PV.int (eL false (eT2 PV.int PV.int)) (eL false (eT2 PV.int PV.int)) PV.int PV.int) web2)), (some ((eL false (eL false PV.bl)) v3)), (some ((eL true (eL false PV.int)) due52)), d54, (some ((eL false (eO PV.int)) number53)), d55, d56, (some ((eV (eV PV.int)) v57)), d66, (some PV.non)]) rfl rfl (p21_law_refused_3_ok (n := 22) (by decide) given1) (fun _ => rfl) (fun _ _ => ⟨(), rfl⟩) ?_
    intro v77
    refine z_ok (b_e (e_lstL (PV.bl) [true, true, false, false] (s_cons (e_q rfl) (s_cons (e_q rfl) (s_cons (e_q rfl) (s_cons (e_q rfl) s_nil)))) rfl)) ?_
    refine z_of (c_ne (e := (eL true PV.bl)) (a := v77) (b := [true, true, false, false]) (by decide)) ?_
    refine z_ifs ?_ ?_
    · refine c_ret ?_
      refine z_ok (e_q rfl) ?_
      exact z_rt ⟨rfl, rfl⟩
    exact c_nil ⟨(some PV.non), rfl⟩
  intro _ d78
  refine z_for0 ?_
  refine c_ret ?_
  refine z_ok (e_q rfl) ?_
  exact z_rt ⟨rfl, rfl⟩
def p5_row_of_2_b (xs1 : (List (Int × Int))) : M (Flow (List (Int × Int)) Empty (List (Int × Int))) :=
 .ok (.rt xs1)
def p5_row_of_2 (xs1 : (List (Int × Int))) : M (List (Int × Int)) := toM (p5_row_of_2_b xs1)
theorem p5_row_of_2_ok {n : Nat} (h : 5 < n) (xs1 : (List (Int × Int))) : CF (fun a => (eV (eT2 PV.int PV.int)) a) (fun a : (List (Int × Int)) => [some ((eV (eT2 PV.int PV.int)) xs1)]) (fun z : Unit => [some ((eV (eT2 PV.int PV.int)) xs1)]) (F n 5 [((eV (eT2 PV.int PV.int)) xs1)]) (p5_row_of_2 xs1) := by
  rw [F_at h]
  refine run_simF (d := n5) (e := [(some ((eV (eT2 PV.int PV.int)) xs1))]) rfl ?_
  refine c_ite ?_
  refine z_ok (t_not (t_v (b_e (e_isi2 (q_rd (l_var rfl) rfl) (isis_f (isi_ty rfl kt_tuple_list) (isis_t (isi_ty rfl kt_tuple_tuple))))) rfl)) ?_
  refine z_ifF ?_
  refine c_ret ?_
  refine z_ok (e_f1 (b_p (l_var rfl)) f_tupV) ?_
  exact z_rt ⟨rfl, rfl⟩
def p7_place_pairs_1_c1 (places2 : Int) : (Int × Int) → M (Flow Unit Empty (Int × Int)) := fun pair4 =>
 (M.nox (p6_two_places pair4 places2)).bind fun v5 =>
 .ok (.rt v5)
def p7_place_pairs_1_b (rows1 : (List (Int × Int))) (places2 : Int) : M (Flow (List (Int × Int)) Empty (List (Int × Int))) :=
 (p5_row_of_2 rows1).bind fun v3 =>
 (gd (sOk v3.length)).bind fun _ => (lcF (p7_place_pairs_1_c1 places2) v3).bind fun l6 =>
 .ok (.rt l6)
def p7_place_pairs_1 (rows1 : (List (Int × Int))) (places2 : Int) : M (List (Int × Int)) := toM (p7_place_pairs_1_b rows1 places2)
theorem p7_place_pairs_1_ok {n : Nat} (h : 7 < n) (rows1 : (List (Int × Int))) (places2 : Int) : CF (fun a => (eV (eT2 PV.int PV.int)) a) (fun a : (List (Int × Int)) => [some ((eV (eT2 PV.int PV.int)) rows1), some (PV.int places2)]) (fun z : Unit => [some ((eV (eT2 PV.int PV.int)) rows1), some (PV.int places2)]) (F n 7 [((eV (eT2 PV.int PV.int)) rows1), (PV.int places2)]) (p7_place_pairs_1 rows1 places2) := by
  rw [F_at h]
  refine run_simF (d := n7) (e := [(some ((eV (eT2 PV.int PV.int)) rows1)), (some (PV.int places2)), none, none]) rfl ?_
  refine c_set ?_
  refine x_call ?_
  refine z_ok (a_e (e_q (q_rd (l_var rfl) rfl)) (fz_to (e := (eV (eT2 PV.int PV.int))) rows1) a_nil) ?_
  refine z_call (e2 := [(some ((eV (eT2 PV.int PV.int)) rows1)), (some (PV.int places2)), none, none]) (E3 := fun a => [(some ((eV (eT2 PV.int PV.int)) rows1)), (some (PV.int places2)), none, none]) rfl rfl (p5_row_of_2_ok (n := 7) (by decide) rows1) (fun _ => rfl) (fun _ _ => ⟨(), rfl⟩) ?_
  intro v3
  refine z_fz (fz_to (e := (eV (eT2 PV.int PV.int))) v3) ?_
  refine c_ret ?_
  refine x_f1 ?_
  refine x_Be ?_
  refine x_lc ?_
  refine x_ie ?_
  refine z_ok (e_q (q_rd (l_var rfl) rfl)) ?_
  refine z_of w_V ?_
  refine z_lc (f := (p7_place_pairs_1_c1 places2)) (e' := (eT2 PV.int PV.int)) rfl ?_ ?_
  · intro pair4
    refine ⟨_, (tp_one (e := (eT2 PV.int PV.int))), ?_⟩
    refine z_ok ta_nil ?_
    refine z_ifT ?_
    refine x_call ?_
    refine z_ok (a_e (e_q (q_rd (l_var rfl) rfl)) (fz_to (e := (eT2 PV.int PV.int)) pair4) (a_e (e_q (q_rd (l_var rfl) rfl)) (fz_to (e := PV.int) places2) a_nil)) ?_
    refine z_callN (e2 := [(some ((eV (eT2 PV.int PV.int)) rows1)), (some (PV.int places2)), (some ((eV (eT2 PV.int PV.int)) v3)), (some ((eT2 PV.int PV.int) pair4))]) (E3 := fun a => [(some ((eV (eT2 PV.int PV.int)) rows1)), (some (PV.int places2)), (some ((eV (eT2 PV.int PV.int)) v3)), (some ((eT2 PV.int PV.int) pair4))]) rfl rfl (p6_two_places_ok (n := 7) (by decide) pair4 places2) (fun _ => rfl) ?_
    intro v5
    exact z_rt ⟨rfl, rfl⟩
  intro l6
  refine z_of f_tupL ?_
  exact z_rt ⟨rfl, rfl⟩
def p8_Web___init_1_b (places1 : Int) (panels2 : (List (Int × Int))) (ties3 : (List (Int × Int))) (near4 : Int) (far5 : Int) : M (Flow (Unit × Web) Empty (Unit × Web)) :=
 (p4_whole places1 (2 : Int) (40 : Int)).bind fun v6 =>
 (p7_place_pairs panels2 places1).bind fun v7 =>
 (p7_place_pairs_1 ties3 places1).bind fun v8 =>
 (p4_whole near4 (0 : Int) (places1 - (1 : Int))).bind fun v9 =>
 (p4_whole far5 (0 : Int) (places1 - (1 : Int))).bind fun v10 =>
 (if (decide (near4 = far5)) then
 (.exc 4)
else
 (if (decide ((60 : Int) < (v7.length : Int))) then
 (.exc 5)
else
 (if (decide ((60 : Int) < (v8.length : Int))) then
 (.exc 5)
else
 .ok (.nx ((), (⟨places1, v7, v8, near4, far5⟩ : Web))))))
def p8_Web___init_1 (places1 : Int) (panels2 : (List (Int × Int))) (ties3 : (List (Int × Int))) (near4 : Int) (far5 : Int) : M (Unit × Web) := toM (p8_Web___init_1_b places1 panels2 ties3 near4 far5)
theorem p8_Web___init_1_ok {n : Nat} (h : 8 < n) (places1 : Int) (panels2 : (List (Int × Int))) (ties3 : (List (Int × Int))) (near4 : Int) (far5 : Int) : CF (fun _ => PV.non) (fun a : (Unit × Web) => [some ((eWeb true) a.2), some (PV.int places1), some ((eL false (eT2 PV.int PV.int)) panels2), some ((eV (eT2 PV.int PV.int)) ties3), some (PV.int near4), some (PV.int far5)]) (fun z : Option PV => [z, some (PV.int places1), some ((eL false (eT2 PV.int PV.int)) panels2), some ((eV (eT2 PV.int PV.int)) ties3), some (PV.int near4), some (PV.int far5)]) (F n 8 [(PV.ins true 6 []), (PV.int places1), ((eL false (eT2 PV.int PV.int)) panels2), ((eV (eT2 PV.int PV.int)) ties3), (PV.int near4), (PV.int far5)]) (p8_Web___init_1 places1 panels2 ties3 near4 far5) := by
  rw [F_at h]
  refine run_simF (d := n8) (e := [(some (PV.ins true 6 [])), (some (PV.int places1)), (some ((eL false (eT2 PV.int PV.int)) panels2)), (some ((eV (eT2 PV.int PV.int)) ties3)), (some (PV.int near4)), (some (PV.int far5)), none, none]) rfl ?_
  refine c_expr ?_
  refine x_call ?_
  refine z_ok (a_e (e_q (q_rd (l_var rfl) rfl)) (fz_to (e := PV.int) places1) (a_e (e_q rfl) (fz_to (e := PV.int) (2 : Int)) (a_e (e_q (gl_0 _ _)) (fz_to (e := PV.int) (40 : Int)) a_nil))) ?_
  refine z_call (e2 := [(some (PV.ins true 6 [])), (some (PV.int places1)), (some ((eL false (eT2 PV.int PV.int)) panels2)), (some ((eV (eT2 PV.int PV.int)) ties3)), (some (PV.int near4)), (some (PV.int far5)), none, none]) (E3 := fun a => [(some (PV.ins true 6 [])), (some (PV.int places1)), (some ((eL false (eT2 PV.int PV.int)) panels2)), (some ((eV (eT2 PV.int PV.int)) ties3)), (some (PV.int near4)), (some (PV.int far5)), none, none]) rfl rfl (p4_whole_ok (n := 8) (by decide) places1 (2 : Int) (40 : Int)) (fun _ => rfl) (fun _ _ => ⟨(some (PV.ins true 6 [])), rfl⟩) ?_
  intro v6
  refine c_set ?_
  refine x_call ?_
  refine z_ok (a_e (e_q (q_rd (l_var rfl) rfl)) (fz_to (e := (eL false (eT2 PV.int PV.int))) panels2) (a_e (e_q (q_rd (l_var rfl) rfl)) (fz_to (e := PV.int) places1) a_nil)) ?_
  refine z_call (e2 := [(some (PV.ins true 6 [])), (some (PV.int places1)), (some ((eL false (eT2 PV.int PV.int)) panels2)), (some ((eV (eT2 PV.int PV.int)) ties3)), (some (PV.int near4)), (some (PV.int far5)), none, none]) (E3 := fun a => [(some (PV.ins true 6 [])), (some (PV.int places1)), (some ((eL false (eT2 PV.int PV.int)) panels2)), (some ((eV (eT2 PV.int PV.int)) ties3)), (some (PV.int near4)), (some (PV.int far5)), none, none]) rfl rfl (p7_place_pairs_ok (n := 8) (by decide) panels2 places1) (fun _ => rfl) (fun _ _ => ⟨(some (PV.ins true 6 [])), rfl⟩) ?_
  intro v7
  refine z_fz (fz_to (e := (eV (eT2 PV.int PV.int))) v7) ?_
  refine c_set ?_
  refine x_call ?_
  refine z_ok (a_e (e_q (q_rd (l_var rfl) rfl)) (fz_to (e := (eV (eT2 PV.int PV.int))) ties3) (a_e (e_q (q_rd (l_var rfl) rfl)) (fz_to (e := PV.int) places1) a_nil)) ?_
  refine z_call (e2 := [(some (PV.ins true 6 [])), (some (PV.int places1)), (some ((eL false (eT2 PV.int PV.int)) panels2)), (some ((eV (eT2 PV.int PV.int)) ties3)), (some (PV.int near4)), (some (PV.int far5)), (some ((eV (eT2 PV.int PV.int)) v7)), none]) (E3 := fun a => [(some (PV.ins true 6 [])), (some (PV.int places1)), (some ((eL false (eT2 PV.int PV.int)) panels2)), (some ((eV (eT2 PV.int PV.int)) ties3)), (some (PV.int near4)), (some (PV.int far5)), (some ((eV (eT2 PV.int PV.int)) v7)), none]) rfl rfl (p7_place_pairs_1_ok (n := 8) (by decide) ties3 places1) (fun _ => rfl) (fun _ _ => ⟨(some (PV.ins true 6 [])), rfl⟩) ?_
  intro v8
  refine z_fz (fz_to (e := (eV (eT2 PV.int PV.int))) v8) ?_
  refine c_expr ?_
  refine x_call ?_
  refine z_ok (a_e (e_q (q_rd (l_var rfl) rfl)) (fz_to (e := PV.int) near4) (a_e (e_q rfl) (fz_to (e := PV.int) (0 : Int)) (a_e (e_bin (b_p (l_var rfl)) (b_e (e_q rfl)) rfl) (fz_to (e := PV.int) (places1 - (1 : Int))) a_nil))) ?_
  refine z_call (e2 := [(some (PV.ins true 6 [])), (some (PV.int places1)), (some ((eL false (eT2 PV.int PV.int)) panels2)), (some ((eV (eT2 PV.int PV.int)) ties3)), (some (PV.int near4)), (some (PV.int far5)), (some ((eV (eT2 PV.int PV.int)) v7)), (some ((eV (eT2 PV.int PV.int)) v8))]) (E3 := fun a => [(some (PV.ins true 6 [])), (some (PV.int places1)), (some ((eL false (eT2 PV.int PV.int)) panels2)), (some ((eV (eT2 PV.int PV.int)) ties3)), (some (PV.int near4)), (some (PV.int far5)), (some ((eV (eT2 PV.int PV.int)) v7)), (some ((eV (eT2 PV.int PV.int)) v8))]) rfl rfl (p4_whole_ok (n := 8) (by decide) near4 (0 : Int) (places1 - (1 : Int))) (fun _ => rfl) (fun _ _ => ⟨(some (PV.ins true 6 [])), rfl⟩) ?_
  intro v9
  refine c_expr ?_
  refine x_call ?_
  refine z_ok (a_e (e_q (q_rd (l_var rfl) rfl)) (fz_to (e := PV.int) far5) (a_e (e_q rfl) (fz_to (e := PV.int) (0 : Int)) (a_e (e_bin (b_p (l_var rfl)) (b_e (e_q rfl)) rfl) (fz_to (e := PV.int) (places1 - (1 : Int))) a_nil))) ?_
  refine z_call (e2 := [(some (PV.ins true 6 [])), (some (PV.int places1)), (some ((eL false (eT2 PV.int PV.int)) panels2)), (some ((eV (eT2 PV.int PV.int)) ties3)), (some (PV.int near4)), (some (PV.int far5)), (some ((eV (eT2 PV.int PV.int)) v7)), (some ((eV (eT2 PV.int PV.int)) v8))]) (E3 := fun a => [(some (PV.ins true 6 [])), (some (PV.int places1)), (some ((eL false (eT2 PV.int PV.int)) panels2)), (some ((eV (eT2 PV.int PV.int)) ties3)), (some (PV.int near4)), (some (PV.int far5)), (some ((eV (eT2 PV.int PV.int)) v7)), (some ((eV (eT2 PV.int PV.int)) v8))]) rfl rfl (p4_whole_ok (n := 8) (by decide) far5 (0 : Int) (places1 - (1 : Int))) (fun _ => rfl) (fun _ _ => ⟨(some (PV.ins true 6 [])), rfl⟩) ?_
  intro v10
  refine c_ite ?_
  refine z_ok (t_cmp (b_p (l_var rfl)) (b_p (l_var rfl)) (c_eq (e := PV.int) (a := near4) (b := far5) (by decide))) ?_
  refine z_ifs ?_ ?_
  · exact c_raise ⟨(some (PV.ins true 6 [])), rfl⟩
  refine c_ite ?_
  refine z_ok (t_cmp (b_e (e_q (q_lenV (l_var rfl)))) (b_e (e_q (gl_1 _ _))) rfl) ?_
  refine z_ifs ?_ ?_
  · exact c_raise ⟨(some (PV.ins true 6 [])), rfl⟩
  refine c_ite ?_
  refine z_ok (t_cmp (b_e (e_q (q_lenV (l_var rfl)))) (b_e (e_q (gl_2 _ _))) rfl) ?_
  refine z_ifs ?_ ?_
  · exact c_raise ⟨(some (PV.ins true 6 [])), rfl⟩
  refine c_setF ?_
  refine z_ok (e_q (q_rd (l_var rfl) rfl)) ?_
  refine z_on (j_setF rfl fx_6_0 rfl) ?_
  refine c_setF ?_
  refine z_ok (e_q (q_rd (l_var rfl) rfl)) ?_
  refine z_on (j_setF rfl fx_6_1 rfl) ?_
  refine c_setF ?_
  refine z_ok (e_q (q_rd (l_var rfl) rfl)) ?_
  refine z_on (j_setF rfl fx_6_2 rfl) ?_
  refine c_setF ?_
  refine z_ok (e_q (q_rd (l_var rfl) rfl)) ?_
  refine z_on (j_setF rfl fx_6_3 rfl) ?_
  refine c_setF ?_
  refine z_ok (e_q (q_rd (l_var rfl) rfl)) ?_
  refine z_on (j_setF rfl fx_6_4 rfl) ?_
  exact c_nil ⟨rfl, rfl⟩
def p23_Web_with_panel_b (self1 : Web) (tail2 : Int) (head3 : Int) : M (Flow Web Empty Web) :=
 (gd (sOk (self1.panels.length + [(tail2, head3)].length))).bind fun _ =>
 (p8_Web___init_1 self1.places (self1.panels ++ [(tail2, head3)]) self1.ties self1.near self1.far).bind fun (_, o5) =>
 .ok (.rt o5)
def p23_Web_with_panel (self1 : Web) (tail2 : Int) (head3 : Int) : M Web := toM (p23_Web_with_panel_b self1 tail2 head3)
theorem p23_Web_with_panel_ok {n : Nat} (h : 23 < n) (self1 : Web) (tail2 : Int) (head3 : Int) : CF (fun a => (eWeb true) a) (fun a : Web => [some ((eWeb false) self1), some (PV.int tail2), some (PV.int head3)]) (fun z : Unit => [some ((eWeb false) self1), some (PV.int tail2), some (PV.int head3)]) (F n 23 [((eWeb false) self1), (PV.int tail2), (PV.int head3)]) (p23_Web_with_panel self1 tail2 head3) := by
  rw [F_at h]
  refine run_simF (d := n23) (e := [(some ((eWeb false) self1)), (some (PV.int tail2)), (some (PV.int head3))]) rfl ?_
  refine c_ret ?_
  refine x_make ?_
  refine g_gd ?_
  intro h4
  refine z_ok (a_e (e_q (q_rd (l_fld (l_var rfl) fx_6_0 rfl) rfl)) (fz_to (e := PV.int) self1.places) (a_e (e_bin (b_e (e_f1 (b_p (l_fld (l_var rfl) fx_6_1 rfl)) f_listV)) (b_e (e_lstL ((eT2 PV.int PV.int)) [(tail2, head3)] (s_cons (e_tup (s_cons (e_q (q_rd (l_var rfl) rfl)) (s_cons (e_q (q_rd (l_var rfl) rfl)) s_nil)) rfl rfl) s_nil) rfl)) (o_addL h4)) (fz_to (e := (eL true (eT2 PV.int PV.int))) (self1.panels ++ [(tail2, head3)])) (a_e (e_q (q_rd (l_fld (l_var rfl) fx_6_2 rfl) rfl)) (fz_to (e := (eV (eT2 PV.int PV.int))) self1.ties) a_nil))) ?_
  refine z_ok (a_e (e_q (q_rd (l_fld (l_var rfl) fx_6_3 rfl) rfl)) (fz_to (e := PV.int) self1.near) (a_e (e_q (q_rd (l_fld (l_var rfl) fx_6_4 rfl) rfl)) (fz_to (e := PV.int) self1.far) a_nil)) ?_
  refine z_make (e2 := [(some ((eWeb false) self1)), (some (PV.int tail2)), (some (PV.int head3))]) (E3 := fun _ => [(some ((eWeb false) self1)), (some (PV.int tail2)), (some (PV.int head3))]) rfl rfl rfl (p8_Web___init_1_ok (n := 23) (by decide) self1.places (self1.panels ++ [(tail2, head3)]) self1.ties self1.near self1.far) (fun _ => rfl) (fun _ => rfl) (fun _ => rfl) (fun _ => rfl) (fun _ _ => ⟨(), rfl⟩) ?_
  rintro ⟨_, o5⟩
  exact z_rt ⟨rfl, rfl⟩
def p8_Web___init_2_b (places1 : Int) (panels2 : (List (Int × Int))) (ties3 : (List (Int × Int))) (near4 : Int) (far5 : Int) : M (Flow (Unit × Web) Empty (Unit × Web)) :=
 (p4_whole places1 (2 : Int) (40 : Int)).bind fun v6 =>
 (p7_place_pairs_1 panels2 places1).bind fun v7 =>
 (p7_place_pairs ties3 places1).bind fun v8 =>
 (p4_whole near4 (0 : Int) (places1 - (1 : Int))).bind fun v9 =>
 (p4_whole far5 (0 : Int) (places1 - (1 : Int))).bind fun v10 =>
 (if (decide (near4 = far5)) then
 (.exc 4)
else
 (if (decide ((60 : Int) < (v7.length : Int))) then
 (.exc 5)
else
 (if (decide ((60 : Int) < (v8.length : Int))) then
 (.exc 5)
else
 .ok (.nx ((), (⟨places1, v7, v8, near4, far5⟩ : Web))))))
def p8_Web___init_2 (places1 : Int) (panels2 : (List (Int × Int))) (ties3 : (List (Int × Int))) (near4 : Int) (far5 : Int) : M (Unit × Web) := toM (p8_Web___init_2_b places1 panels2 ties3 near4 far5)
theorem p8_Web___init_2_ok {n : Nat} (h : 8 < n) (places1 : Int) (panels2 : (List (Int × Int))) (ties3 : (List (Int × Int))) (near4 : Int) (far5 : Int) : CF (fun _ => PV.non) (fun a : (Unit × Web) => [some ((eWeb true) a.2), some (PV.int places1), some ((eV (eT2 PV.int PV.int)) panels2), some ((eL false (eT2 PV.int PV.int)) ties3), some (PV.int near4), some (PV.int far5)]) (fun z : Option PV => [z, some (PV.int places1), some ((eV (eT2 PV.int PV.int)) panels2), some ((eL false (eT2 PV.int PV.int)) ties3), some (PV.int near4), some (PV.int far5)]) (F n 8 [(PV.ins true 6 []), (PV.int places1), ((eV (eT2 PV.int PV.int)) panels2), ((eL false (eT2 PV.int PV.int)) ties3), (PV.int near4), (PV.int far5)]) (p8_Web___init_2 places1 panels2 ties3 near4 far5) := by
  rw [F_at h]
  refine run_simF (d := n8) (e := [(some (PV.ins true 6 [])), (some (PV.int places1)), (some ((eV (eT2 PV.int PV.int)) panels2)), (some ((eL false (eT2 PV.int PV.int)) ties3)), (some (PV.int near4)), (some (PV.int far5)), none, none]) rfl ?_
  refine c_expr ?_
  refine x_call ?_
  refine z_ok (a_e (e_q (q_rd (l_var rfl) rfl)) (fz_to (e := PV.int) places1) (a_e (e_q rfl) (fz_to (e := PV.int) (2 : Int)) (a_e (e_q (gl_0 _ _)) (fz_to (e := PV.int) (40 : Int)) a_nil))) ?_
  refine z_call (e2 := [(some (PV.ins true 6 [])), (some (PV.int places1)), (some ((eV (eT2 PV.int PV.int)) panels2)), (some ((eL false (eT2 PV.int PV.int)) ties3)), (some (PV.int near4)), (some (PV.int far5)), none, none]) (E3 := fun a => [(some (PV.ins true 6 [])), (some (PV.int places1)), (some ((eV (eT2 PV.int PV.int)) panels2)), (some ((eL false (eT2 PV.int PV.int)) ties3)), (some (PV.int near4)), (some (PV.int far5)), none, none]) rfl rfl (p4_whole_ok (n := 8) (by decide) places1 (2 : Int) (40 : Int)) (fun _ => rfl) (fun _ _ => ⟨(some (PV.ins true 6 [])), rfl⟩) ?_
  intro v6
  refine c_set ?_
  refine x_call ?_
  refine z_ok (a_e (e_q (q_rd (l_var rfl) rfl)) (fz_to (e := (eV (eT2 PV.int PV.int))) panels2) (a_e (e_q (q_rd (l_var rfl) rfl)) (fz_to (e := PV.int) places1) a_nil)) ?_
  refine z_call (e2 := [(some (PV.ins true 6 [])), (some (PV.int places1)), (some ((eV (eT2 PV.int PV.int)) panels2)), (some ((eL false (eT2 PV.int PV.int)) ties3)), (some (PV.int near4)), (some (PV.int far5)), none, none]) (E3 := fun a => [(some (PV.ins true 6 [])), (some (PV.int places1)), (some ((eV (eT2 PV.int PV.int)) panels2)), (some ((eL false (eT2 PV.int PV.int)) ties3)), (some (PV.int near4)), (some (PV.int far5)), none, none]) rfl rfl (p7_place_pairs_1_ok (n := 8) (by decide) panels2 places1) (fun _ => rfl) (fun _ _ => ⟨(some (PV.ins true 6 [])), rfl⟩) ?_
  intro v7
  refine z_fz (fz_to (e := (eV (eT2 PV.int PV.int))) v7) ?_
  refine c_set ?_
  refine x_call ?_
  refine z_ok (a_e (e_q (q_rd (l_var rfl) rfl)) (fz_to (e := (eL false (eT2 PV.int PV.int))) ties3) (a_e (e_q (q_rd (l_var rfl) rfl)) (fz_to (e := PV.int) places1) a_nil)) ?_
  refine z_call (e2 := [(some (PV.ins true 6 [])), (some (PV.int places1)), (some ((eV (eT2 PV.int PV.int)) panels2)), (some ((eL false (eT2 PV.int PV.int)) ties3)), (some (PV.int near4)), (some (PV.int far5)), (some ((eV (eT2 PV.int PV.int)) v7)), none]) (E3 := fun a => [(some (PV.ins true 6 [])), (some (PV.int places1)), (some ((eV (eT2 PV.int PV.int)) panels2)), (some ((eL false (eT2 PV.int PV.int)) ties3)), (some (PV.int near4)), (some (PV.int far5)), (some ((eV (eT2 PV.int PV.int)) v7)), none]) rfl rfl (p7_place_pairs_ok (n := 8) (by decide) ties3 places1) (fun _ => rfl) (fun _ _ => ⟨(some (PV.ins true 6 [])), rfl⟩) ?_
  intro v8
  refine z_fz (fz_to (e := (eV (eT2 PV.int PV.int))) v8) ?_
  refine c_expr ?_
  refine x_call ?_
  refine z_ok (a_e (e_q (q_rd (l_var rfl) rfl)) (fz_to (e := PV.int) near4) (a_e (e_q rfl) (fz_to (e := PV.int) (0 : Int)) (a_e (e_bin (b_p (l_var rfl)) (b_e (e_q rfl)) rfl) (fz_to (e := PV.int) (places1 - (1 : Int))) a_nil))) ?_
  refine z_call (e2 := [(some (PV.ins true 6 [])), (some (PV.int places1)), (some ((eV (eT2 PV.int PV.int)) panels2)), (some ((eL false (eT2 PV.int PV.int)) ties3)), (some (PV.int near4)), (some (PV.int far5)), (some ((eV (eT2 PV.int PV.int)) v7)), (some ((eV (eT2 PV.int PV.int)) v8))]) (E3 := fun a => [(some (PV.ins true 6 [])), (some (PV.int places1)), (some ((eV (eT2 PV.int PV.int)) panels2)), (some ((eL false (eT2 PV.int PV.int)) ties3)), (some (PV.int near4)), (some (PV.int far5)), (some ((eV (eT2 PV.int PV.int)) v7)), (some ((eV (eT2 PV.int PV.int)) v8))]) rfl rfl (p4_whole_ok (n := 8) (by decide) near4 (0 : Int) (places1 - (1 : Int))) (fun _ => rfl) (fun _ _ => ⟨(some (PV.ins true 6 [])), rfl⟩) ?_
  intro v9
  refine c_expr ?_
  refine x_call ?_
  refine z_ok (a_e (e_q (q_rd (l_var rfl) rfl)) (fz_to (e := PV.int) far5) (a_e (e_q rfl) (fz_to (e := PV.int) (0 : Int)) (a_e (e_bin (b_p (l_var rfl)) (b_e (e_q rfl)) rfl) (fz_to (e := PV.int) (places1 - (1 : Int))) a_nil))) ?_
  refine z_call (e2 := [(some (PV.ins true 6 [])), (some (PV.int places1)), (some ((eV (eT2 PV.int PV.int)) panels2)), (some ((eL false (eT2 PV.int PV.int)) ties3)), (some (PV.int near4)), (some (PV.int far5)), (some ((eV (eT2 PV.int PV.int)) v7)), (some ((eV (eT2 PV.int PV.int)) v8))]) (E3 := fun a => [(some (PV.ins true 6 [])), (some (PV.int places1)), (some ((eV (eT2 PV.int PV.int)) panels2)), (some ((eL false (eT2 PV.int PV.int)) ties3)), (some (PV.int near4)), (some (PV.int far5)), (some ((eV (eT2 PV.int PV.int)) v7)), (some ((eV (eT2 PV.int PV.int)) v8))]) rfl rfl (p4_whole_ok (n := 8) (by decide) far5 (0 : Int) (places1 - (1 : Int))) (fun _ => rfl) (fun _ _ => ⟨(some (PV.ins true 6 [])), rfl⟩) ?_
  intro v10
  refine c_ite ?_
  refine z_ok (t_cmp (b_p (l_var rfl)) (b_p (l_var rfl)) (c_eq (e := PV.int) (a := near4) (b := far5) (by decide))) ?_
  refine z_ifs ?_ ?_
  · exact c_raise ⟨(some (PV.ins true 6 [])), rfl⟩
  refine c_ite ?_
  refine z_ok (t_cmp (b_e (e_q (q_lenV (l_var rfl)))) (b_e (e_q (gl_1 _ _))) rfl) ?_
  refine z_ifs ?_ ?_
  · exact c_raise ⟨(some (PV.ins true 6 [])), rfl⟩
  refine c_ite ?_
  refine z_ok (t_cmp (b_e (e_q (q_lenV (l_var rfl)))) (b_e (e_q (gl_2 _ _))) rfl) ?_
  refine z_ifs ?_ ?_
  · exact c_raise ⟨(some (PV.ins true 6 [])), rfl⟩
  refine c_setF ?_
  refine z_ok (e_q (q_rd (l_var rfl) rfl)) ?_
  refine z_on (j_setF rfl fx_6_0 rfl) ?_
  refine c_setF ?_
  refine z_ok (e_q (q_rd (l_var rfl) rfl)) ?_
  refine z_on (j_setF rfl fx_6_1 rfl) ?_
  refine c_setF ?_
  refine z_ok (e_q (q_rd (l_var rfl) rfl)) ?_
  refine z_on (j_setF rfl fx_6_2 rfl) ?_
  refine c_setF ?_
  refine z_ok (e_q (q_rd (l_var rfl) rfl)) ?_
  refine z_on (j_setF rfl fx_6_3 rfl) ?_
  refine c_setF ?_
  refine z_ok (e_q (q_rd (l_var rfl) rfl)) ?_
  refine z_on (j_setF rfl fx_6_4 rfl) ?_
  exact c_nil ⟨rfl, rfl⟩
def p24_Web_with_tie_b (self1 : Web) (a2 : Int) (b3 : Int) : M (Flow Web Empty Web) :=
 (gd (sOk (self1.ties.length + [(a2, b3)].length))).bind fun _ =>
 (p8_Web___init_2 self1.places self1.panels (self1.ties ++ [(a2, b3)]) self1.near self1.far).bind fun (_, o5) =>
 .ok (.rt o5)
def p24_Web_with_tie (self1 : Web) (a2 : Int) (b3 : Int) : M Web := toM (p24_Web_with_tie_b self1 a2 b3)
theorem p24_Web_with_tie_ok {n : Nat} (h : 24 < n) (self1 : Web) (a2 : Int) (b3 : Int) : CF (fun a => (eWeb true) a) (fun a : Web => [some ((eWeb false) self1), some (PV.int a2), some (PV.int b3)]) (fun z : Unit => [some ((eWeb false) self1), some (PV.int a2), some (PV.int b3)]) (F n 24 [((eWeb false) self1), (PV.int a2), (PV.int b3)]) (p24_Web_with_tie self1 a2 b3) := by
  rw [F_at h]
  refine run_simF (d := n24) (e := [(some ((eWeb false) self1)), (some (PV.int a2)), (some (PV.int b3))]) rfl ?_
  refine c_ret ?_
  refine x_make ?_
  refine g_gd ?_
  intro h4
  refine z_ok (a_e (e_q (q_rd (l_fld (l_var rfl) fx_6_0 rfl) rfl)) (fz_to (e := PV.int) self1.places) (a_e (e_q (q_rd (l_fld (l_var rfl) fx_6_1 rfl) rfl)) (fz_to (e := (eV (eT2 PV.int PV.int))) self1.panels) (a_e (e_bin (b_e (e_f1 (b_p (l_fld (l_var rfl) fx_6_2 rfl)) f_listV)) (b_e (e_lstL ((eT2 PV.int PV.int)) [(a2, b3)] (s_cons (e_tup (s_cons (e_q (q_rd (l_var rfl) rfl)) (s_cons (e_q (q_rd (l_var rfl) rfl)) s_nil)) rfl rfl) s_nil) rfl)) (o_addL h4)) (fz_to (e := (eL true (eT2 PV.int PV.int))) (self1.ties ++ [(a2, b3)])) a_nil))) ?_
  refine z_ok (a_e (e_q (q_rd (l_fld (l_var rfl) fx_6_3 rfl) rfl)) (fz_to (e := PV.int) self1.near) (a_e (e_q (q_rd (l_fld (l_var rfl) fx_6_4 rfl) rfl)) (fz_to (e := PV.int) self1.far) a_nil)) ?_
  refine z_make (e2 := [(some ((eWeb false) self1)), (some (PV.int a2)), (some (PV.int b3))]) (E3 := fun _ => [(some ((eWeb false) self1)), (some (PV.int a2)), (some (PV.int b3))]) rfl rfl rfl (p8_Web___init_2_ok (n := 24) (by decide) self1.places self1.panels (self1.ties ++ [(a2, b3)]) self1.near self1.far) (fun _ => rfl) (fun _ => rfl) (fun _ => rfl) (fun _ => rfl) (fun _ _ => ⟨(), rfl⟩) ?_
  rintro ⟨_, o5⟩
  exact z_rt ⟨rfl, rfl⟩
def p25_law_grown_f2 (v25 : (List Int)) (row16 : (List Int)) : Int → Unit → M (Flow Unit Unit (Bool × (List Int))) := fun q28 _ =>
 (if (!(decide (q28 ∈ v25))) then
 .ok (.rt (false, row16))
else
 .ok (.nx ()))
def p25_law_grown_f1 (other18 : Web) (given2 : Web) (row16 : (List Int)) : Int → Unit → M (Flow Unit Unit (Bool × (List Int))) := fun place24 _ =>
 (p17_reached other18 place24).bind fun v25 =>
 (p17_reached given2 place24).bind fun v26 =>
 (M.andThen (forF (p25_law_grown_f2 v25 row16) v26 ()) fun _ =>
 .ok (.nx ()))
def p25_law_grown_b (row1 : (List Int)) (given2 : Web) (web3 : (Int × (List (Int × Int)) × (List (Int × Int)) × Int × Int)) : M (Flow (Bool × (List Int)) Empty (Bool × (List Int))) :=
 (p1_law_take row1 web3.1).bind fun (v4, row5) =>
 (p1_law_take row5 web3.1).bind fun (v6, row7) =>
 (gd (decide ((0 : Int) < web3.1))).bind fun _ =>
 (M.andThen ((p1_law_take row7 (2 : Int)).bind fun (v9, row10) =>
 (if (decide (v9 = (0 : Int))) then
 (p23_Web_with_panel given2 v4 (((v4 + (1 : Int)) + v6) % web3.1)).bind fun v11 =>
 (gd (decide (web3.2.1.length < sizeLine))).bind fun _ =>
 .ok (.nx (row10, (web3.1, (web3.2.1 ++ [(v4, (((v4 + (1 : Int)) + v6) % web3.1))]), web3.2.2.1, web3.2.2.2.1, web3.2.2.2.2), v11))
else
 (p24_Web_with_tie given2 v4 (((v4 + (1 : Int)) + v6) % web3.1)).bind fun v13 =>
 (gd (decide (web3.2.2.1.length < sizeLine))).bind fun _ =>
 .ok (.nx (row10, (web3.1, web3.2.1, (web3.2.2.1 ++ [(v4, (((v4 + (1 : Int)) + v6) % web3.1))]), web3.2.2.2.1, web3.2.2.2.2), v13)))) fun (row16, more17, other18) =>
 (p22_law_asks other18 more17).bind fun v19 =>
 (if (!v19) then
 .ok (.rt (false, row16))
else
 (gd (rgOk web3.1)).bind fun _ =>
 (M.andThen (forF (p25_law_grown_f1 other18 given2 row16) (rangeI 0 web3.1) ()) fun _ =>
 .ok (.rt (true, row16)))))
def p25_law_grown (row1 : (List Int)) (given2 : Web) (web3 : (Int × (List (Int × Int)) × (List (Int × Int)) × Int × Int)) : M (Bool × (List Int)) := toM (p25_law_grown_b row1 given2 web3)
theorem p25_law_grown_ok {n : Nat} (h : 25 < n) (row1 : (List Int)) (given2 : Web) (web3 : (Int × (List (Int × Int)) × (List (Int × Int)) × Int × Int)) : CF (fun a => PV.bl a.1) (fun a : (Bool × (List Int)) => [some ((eL true PV.int) a.2), some ((eWeb false) given2), some ((eH5 false PV.int (eL false (eT2 PV.int PV.int)) (eL false (eT2 PV.int PV.int)) PV.int PV.int) web3)]) (fun z : Option PV => [z, some ((eWeb false) given2), some ((eH5 false PV.int (eL false (eT2 PV.int PV.int)) (eL false (eT2 PV.int PV.int)) PV.int PV.int) web3)]) (F n 25 [((eL true PV.int) row1), ((eWeb false) given2), ((eH5 false PV.int (eL false (eT2 PV.int PV.int)) (eL false (eT2 PV.int PV.int)) PV.int PV.int) web3)]) (p25_law_grown row1 given2 web3) := by
  rw [F_at h]
  refine run_simF (d := n25) (e := [(some ((eL true PV.int) row1)), (some ((eWeb false) given2)), (some ((eH5 false PV.int (eL false (eT2 PV.int PV.int)) (eL false (eT2 PV.int PV.int)) PV.int PV.int) web3)), none, none, none, none, none, none, none]) rfl ?_
  refine c_set ?_
  refine x_call ?_
  refine z_ok (a_mv rfl (a_e (e_q (q_rd (l_ixH (l_var rfl) rfl rfl) rfl)) (fz_to (e := PV.int) web3.1) a_nil)) ?_
  refine z_call (e2 := [none, (some ((eWeb false) given2)), (some ((eH5 false PV.int (eL false (eT2 PV.int PV.int)) (eL false (eT2 PV.int PV.int)) PV.int PV.int) web3)), none, none, none, none, none, none, none]) (E3 := fun a => [(some ((eL true PV.int) a.2)), (some ((eWeb false) given2)), (some ((eH5 false PV.int (eL false (eT2 PV.int PV.int)) (eL false (eT2 PV.int PV.int)) PV.int PV.int) web3)), none, none, none, none, none, none, none]) rfl rfl (p1_law_take_ok (n := 25) (by decide) row1 web3.1) (fun _ => rfl) (fun d34 _ => ⟨d34, rfl⟩) ?_
  rintro ⟨v4, row5⟩
  refine z_fz (fz_to (e := PV.int) v4) ?_
  refine c_set ?_
  refine x_bin ?_
  refine x_Be ?_
  refine x_f1 ?_
  refine x_Be ?_
  refine x_bin ?_
  refine z_ok (b_e (e_q (q_bin (q_rd (l_var rfl) rfl) rfl rfl))) ?_
  refine x_Be ?_
  refine x_call ?_
  refine z_ok (a_mv rfl (a_e (e_q (q_rd (l_ixH (l_var rfl) rfl rfl) rfl)) (fz_to (e := PV.int) web3.1) a_nil)) ?_
  refine z_call (e2 := [none, (some ((eWeb false) given2)), (some ((eH5 false PV.int (eL false (eT2 PV.int PV.int)) (eL false (eT2 PV.int PV.int)) PV.int PV.int) web3)), (some (PV.int v4)), none, none, none, none, none, none]) (E3 := fun a => [(some ((eL true PV.int) a.2)), (some ((eWeb false) given2)), (some ((eH5 false PV.int (eL false (eT2 PV.int PV.int)) (eL false (eT2 PV.int PV.int)) PV.int PV.int) web3)), (some (PV.int v4)), none, none, none, none, none, none]) rfl rfl (p1_law_take_ok (n := 25) (by decide) row5 web3.1) (fun _ => rfl) (fun d33 _ => ⟨d33, rfl⟩) ?_
  rintro ⟨v6, row7⟩
  refine z_of rfl ?_
  refine z_of f_int ?_
  refine z_ok (b_p (l_ixH (l_var rfl) rfl rfl)) ?_
  refine g_gd ?_
  intro h8
  refine z_of (o_mod h8) ?_
  refine z_fz (fz_to (e := PV.int) (((v4 + (1 : Int)) + v6) % web3.1)) ?_
  refine c_set ?_
  refine z_ok (e_lst (s_cons (e_q (q_rd (l_ixH (l_var rfl) rfl rfl) rfl)) (s_cons (e_f1 (b_p (l_ixH (l_var rfl) rfl rfl)) f_listL) (s_cons (e_f1 (b_p (l_ixH (l_var rfl) rfl rfl)) f_listL) (s_cons (e_q (q_rd (l_ixH (l_var rfl) rfl rfl) rfl)) (s_cons (e_q (q_rd (l_ixH (l_var rfl) rfl rfl) rfl)) s_nil))))) rfl) ?_
  refine z_fz (fz_no _) ?_
  refine c_iteE (E := (fun (s : ((List Int) × (Int × (List (Int × Int)) × (List (Int × Int)) × Int × Int) × Web)) (d : Unit) => [(some ((eL true PV.int) s.1)), (some ((eWeb false) given2)), (some ((eH5 false PV.int (eL false (eT2 PV.int PV.int)) (eL false (eT2 PV.int PV.int)) PV.int PV.int) web3)), (some (PV.int v4)), (some (PV.int (((v4 + (1 : Int)) + v6) % web3.1))), (some ((eH5 true PV.int (eL true (eT2 PV.int PV.int)) (eL true (eT2 PV.int PV.int)) PV.int PV.int) s.2.1)), (some ((eWeb false) s.2.2)), none, none, none])) ?_ ?_
  · refine x_tcmp ?_
    refine x_Be ?_
    refine x_call ?_
    refine z_ok (a_mv rfl (a_e (e_q rfl) (fz_to (e := PV.int) (2 : Int)) a_nil)) ?_
    refine z_call (e2 := [none, (some ((eWeb false) given2)), (some ((eH5 false PV.int (eL false (eT2 PV.int PV.int)) (eL false (eT2 PV.int PV.int)) PV.int PV.int) web3)), (some (PV.int v4)), (some (PV.int (((v4 + (1 : Int)) + v6) % web3.1))), (some (PV.lst true [(PV.int web3.1), ((eL true (eT2 PV.int PV.int)) web3.2.1), ((eL true (eT2 PV.int PV.int)) web3.2.2.1), (PV.int web3.2.2.2.1), (PV.int web3.2.2.2.2)])), none, none, none, none]) (E3 := fun a => [(some ((eL true PV.int) a.2)), (some ((eWeb false) given2)), (some ((eH5 false PV.int (eL false (eT2 PV.int PV.int)) (eL false (eT2 PV.int PV.int)) PV.int PV.int) web3)), (some (PV.int v4)), (some (PV.int (((v4 + (1 : Int)) + v6) % web3.1))), (some (PV.lst true [(PV.int web3.1), ((eL true (eT2 PV.int PV.int)) web3.2.1), ((eL true (eT2 PV.int PV.int)) web3.2.2.1), (PV.int web3.2.2.2.1), (PV.int web3.2.2.2.2)])), none, none, none, none]) rfl rfl (p1_law_take_ok (n := 25) (by decide) row7 (2 : Int)) (fun _ => rfl) (fun d15 _ => ⟨d15, rfl⟩) ?_
    rintro ⟨v9, row10⟩
    refine z_ok (b_e (e_q rfl)) ?_
    refine z_of (c_eq (e := PV.int) (a := v9) (b := (0 : Int)) (by decide)) ?_
    refine z_ifs ?_ ?_
    · refine c_set ?_
      refine x_meth ?_
      refine z_ok (e_q (q_rd (l_var rfl) rfl)) ?_
      refine z_methR rfl ?_
      refine z_ok (a_e (e_q (q_rd (l_var rfl) rfl)) (fz_to (e := PV.int) v4) (a_e (e_q (q_rd (l_var rfl) rfl)) (fz_to (e := PV.int) (((v4 + (1 : Int)) + v6) % web3.1)) a_nil)) ?_
      refine z_meth (e2 := [(some ((eL true PV.int) row10)), (some ((eWeb false) given2)), (some ((eH5 false PV.int (eL false (eT2 PV.int PV.int)) (eL false (eT2 PV.int PV.int)) PV.int PV.int) web3)), (some (PV.int v4)), (some (PV.int (((v4 + (1 : Int)) + v6) % web3.1))), (some (PV.lst true [(PV.int web3.1), ((eL true (eT2 PV.int PV.int)) web3.2.1), ((eL true (eT2 PV.int PV.int)) web3.2.2.1), (PV.int web3.2.2.2.1), (PV.int web3.2.2.2.2)])), none, none, none, none]) (E3 := fun a => [(some ((eL true PV.int) row10)), (some ((eWeb false) given2)), (some ((eH5 false PV.int (eL false (eT2 PV.int PV.int)) (eL false (eT2 PV.int PV.int)) PV.int PV.int) web3)), (some (PV.int v4)), (some (PV.int (((v4 + (1 : Int)) + v6) % web3.1))), (some (PV.lst true [(PV.int web3.1), ((eL true (eT2 PV.int PV.int)) web3.2.1), ((eL true (eT2 PV.int PV.int)) web3.2.2.1), (PV.int web3.2.2.2.1), (PV.int web3.2.2.2.2)])), none, none, none, none]) rfl rfl (p23_Web_with_panel_ok (n := 25) (by decide) given2 v4 (((v4 + (1 : Int)) + v6) % web3.1)) (fun _ => rfl) (fun _ => rfl) (fun _ => rfl) (fun _ _ => ⟨(some ((eL true PV.int) row10)), rfl⟩) ?_
      intro v11
      refine z_fz (fz_to (e := (eWeb true)) v11) ?_
      refine g_gd ?_
      intro h12
      refine c_appTH (en := (eT2 PV.int PV.int)) (l := web3.2.1) (y := (v4, (((v4 + (1 : Int)) + v6) % web3.1))) rfl rfl rfl rfl (q_rd (l_var rfl) rfl) (q_rd (l_var rfl) rfl) rfl h12 ?_
      exact c_nil ⟨(), rfl⟩
    refine c_set ?_
    refine x_meth ?_
    refine z_ok (e_q (q_rd (l_var rfl) rfl)) ?_
    refine z_methR rfl ?_
    refine z_ok (a_e (e_q (q_rd (l_var rfl) rfl)) (fz_to (e := PV.int) v4) (a_e (e_q (q_rd (l_var rfl) rfl)) (fz_to (e := PV.int) (((v4 + (1 : Int)) + v6) % web3.1)) a_nil)) ?_
    refine z_meth (e2 := [(some ((eL true PV.int) row10)), (some ((eWeb false) given2)), (some ((eH5 false PV.int (eL false (eT2 PV.int PV.int)) (eL false (eT2 PV.int PV.int)) PV.int PV.int) web3)), (some (PV.int v4)), (some (PV.int (((v4 + (1 : Int)) + v6) % web3.1))), (some (PV.lst true [(PV.int web3.1), ((eL true (eT2 PV.int PV.int)) web3.2.1), ((eL true (eT2 PV.int PV.int)) web3.2.2.1), (PV.int web3.2.2.2.1), (PV.int web3.2.2.2.2)])), none, none, none, none]) (E3 := fun a => [(some ((eL true PV.int) row10)), (some ((eWeb false) given2)), (some ((eH5 false PV.int (eL false (eT2 PV.int PV.int)) (eL false (eT2 PV.int PV.int)) PV.int PV.int) web3)), (some (PV.int v4)), (some (PV.int (((v4 + (1 : Int)) + v6) % web3.1))), (some (PV.lst true [(PV.int web3.1), ((eL true (eT2 PV.int PV.int)) web3.2.1), ((eL true (eT2 PV.int PV.int)) web3.2.2.1), (PV.int web3.2.2.2.1), (PV.int web3.2.2.2.2)])), none, none, none, none]) rfl rfl (p24_Web_with_tie_ok (n := 25) (by decide) given2 v4 (((v4 + (1 : Int)) + v6) % web3.1)) (fun _ => rfl) (fun _ => rfl) (fun _ => rfl) (fun _ _ => ⟨(some ((eL true PV.int) row10)), rfl⟩) ?_
    intro v13
    refine z_fz (fz_to (e := (eWeb true)) v13) ?_
    refine g_gd ?_
    intro h14
    refine c_appTH (en := (eT2 PV.int PV.int)) (l := web3.2.2.1) (y := (v4, (((v4 + (1 : Int)) + v6) % web3.1))) rfl rfl rfl rfl (q_rd (l_var rfl) rfl) (q_rd (l_var rfl) rfl) rfl h14 ?_
    exact c_nil ⟨(), rfl⟩
  rintro ⟨row16, more17, other18⟩ _
  refine c_ite ?_
  refine x_tnot ?_
  refine x_tv ?_
  refine x_Be ?_
  refine x_call ?_
  refine z_ok (a_e (e_q (q_rd (l_var rfl) rfl)) (fz_to (e := (eWeb false)) other18) (a_e (e_fz (e := (eH5 true PV.int (eL true (eT2 PV.int PV.int)) (eL true (eT2 PV.int PV.int)) PV.int PV.int)) (a := more17) rfl) (fz_to (e := (eH5 false PV.int (eL false (eT2 PV.int PV.int)) (eL false (eT2 PV.int PV.int)) PV.int PV.int)) more17) a_nil)) ?_
  refine z_call (e2 := [(some ((eL true PV.int) row16)), (some ((eWeb false) given2)), (some ((eH5 false PV.int (eL false (eT2 PV.int PV.int)) (eL false (eT2 PV.int PV.int)) PV.int PV.int) web3)), (some (PV.int v4)), (some (PV.int (((v4 + (1 : Int)) + v6) % web3.1))), (some ((eH5 false PV.int (eL false (eT2 PV.int PV.int)) (eL false (eT2 PV.int PV.int)) PV.int PV.int) more17)), (some ((eWeb false) other18)), none, none, none]) (E3 := fun a => [(some ((eL true PV.int) row16)), (some ((eWeb false) given2)), (some ((eH5 false PV.int (eL false (eT2 PV.int PV.int)) (eL false (eT2 PV.int PV.int)) PV.int PV.int) web3)), (some (PV.int v4)), (some (PV.int (((v4 + (1 : Int)) + v6) % web3.1))), (some ((eH5 false PV.int (eL false (eT2 PV.int PV.int)) (eL false (eT2 PV.int PV.int)) PV.int PV.int) more17)), (some ((eWeb false) other18)), none, none, none]) rfl rfl (p22_law_asks_ok (n := 25) (by decide) other18 more17) (fun _ => rfl) (fun _ _ => ⟨(some ((eL true PV.int) row16)), rfl⟩) ?_
  intro v19
  refine z_of rfl ?_
  refine z_ifs ?_ ?_
  · refine c_ret ?_
    refine z_ok (e_q rfl) ?_
    exact z_rt ⟨rfl, rfl⟩
  refine c_for ?_
  refine x_r1 ?_
  refine z_ok (e_q (q_rd (l_ixH (l_var rfl) rfl rfl) rfl)) ?_
  refine g_gd ?_
  intro h20
  refine z_of (w_r1 h20) ?_
  refine z_for (E := (fun (s : Unit) (d : Option PV × Option PV × Option PV) => [(some ((eL true PV.int) row16)), (some ((eWeb false) given2)), (some ((eH5 false PV.int (eL false (eT2 PV.int PV.int)) (eL false (eT2 PV.int PV.int)) PV.int PV.int) web3)), (some (PV.int v4)), (some (PV.int (((v4 + (1 : Int)) + v6) % web3.1))), (some ((eH5 false PV.int (eL false (eT2 PV.int PV.int)) (eL false (eT2 PV.int PV.int)) PV.int PV.int) more17)), (some ((eWeb false) other18)), d.1, d.2.1, d.2.2])) (f := (p25_law_grown_f1 other18 given2 row16)) (s0 := ()) (none, none, none) rfl ?_ ?_
  · rintro place24 _ ⟨d21, d22, d23⟩
    refine ⟨_, (tp_one (e := PV.int)), ?_⟩
    refine c_set ?_
    refine x_call ?_
    refine z_ok (a_e (e_q (q_rd (l_var rfl) rfl)) (fz_to (e := (eWeb false)) other18) (a_e (e_q (q_rd (l_var rfl) rfl)) (fz_to (e := PV.int) place24) a_nil)) ?_
    refine z_call (e2 := [(some ((eL true PV.int) row16)), (some ((eWeb false) given2)), (some ((eH5 false PV.int (eL false (eT2 PV.int PV.int)) (eL false (eT2 PV.int PV.int)) PV.int PV.int) web3)), (some (PV.int v4)), (some (PV.int (((v4 + (1 : Int)) + v6) % web3.1))), (some ((eH5 false PV.int (eL false (eT2 PV.int PV.int)) (eL false (eT2 PV.int PV.int)) PV.int PV.int) more17)), (some ((eWeb false) other18)), (some (PV.int place24)), d22, d23]) (E3 := fun a => [(some ((eL true PV.int) row16)), (some ((eWeb false) given2)), (some ((eH5 false PV.int (eL false (eT2 PV.int PV.int)) (eL false (eT2 PV.int PV.int)) PV.int PV.int) web3)), (some (PV.int v4)), (some (PV.int (((v4 + (1 : Int)) + v6) % web3.1))), (some ((eH5 false PV.int (eL false (eT2 PV.int PV.int)) (eL false (eT2 PV.int PV.int)) PV.int PV.int) more17)), (some ((eWeb false) other18)), (some (PV.int place24)), d22, d23]) rfl rfl (p17_reached_ok (n := 25) (by decide) other18 place24) (fun _ => rfl) (fun _ _ => ⟨(some ((eL true PV.int) row16)), rfl⟩) ?_
    intro v25
    refine z_fz (fz_to (e := (eV PV.int)) v25) ?_
    refine c_for ?_
    refine x_ie ?_
    refine x_call ?_
    refine z_ok (a_e (e_q (q_rd (l_var rfl) rfl)) (fz_to (e := (eWeb false)) given2) (a_e (e_q (q_rd (l_var rfl) rfl)) (fz_to (e := PV.int) place24) a_nil)) ?_
    refine z_call (e2 := [(some ((eL true PV.int) row16)), (some ((eWeb false) given2)), (some ((eH5 false PV.int (eL false (eT2 PV.int PV.int)) (eL false (eT2 PV.int PV.int)) PV.int PV.int) web3)), (some (PV.int v4)), (some (PV.int (((v4 + (1 : Int)) + v6) % web3.1))), (some ((eH5 false PV.int (eL false (eT2 PV.int PV.int)) (eL false (eT2 PV.int PV.int)) PV.int PV.int) more17)), (some ((eWeb false) other18)), (some (PV.int place24)), (some ((eV PV.int) v25)), d23]) (E3 := fun a => [(some ((eL true PV.int) row16)), (some ((eWeb false) given2)), (some ((eH5 false PV.int (eL false (eT2 PV.int PV.int)) (eL false (eT2 PV.int PV.int)) PV.int PV.int) web3)), (some (PV.int v4)), (some (PV.int (((v4 + (1 : Int)) + v6) % web3.1))), (some ((eH5 false PV.int (eL false (eT2 PV.int PV.int)) (eL false (eT2 PV.int PV.int)) PV.int PV.int) more17)), (some ((eWeb false) other18)), (some (PV.int place24)), (some ((eV PV.int) v25)), d23]) rfl rfl (p17_reached_ok (n := 25) (by decide) given2 place24) (fun _ => rfl) (fun _ _ => ⟨(some ((eL true PV.int) row16)), rfl⟩) ?_
    intro v26
    refine z_of w_V ?_
    refine z_for (E := (fun (s : Unit) (d : Option PV) => [(some ((eL true PV.int) row16)), (some ((eWeb false) given2)), (some ((eH5 false PV.int (eL false (eT2 PV.int PV.int)) (eL false (eT2 PV.int PV.int)) PV.int PV.int) web3)), (some (PV.int v4)), (some (PV.int (((v4 + (1 : Int)) + v6) % web3.1))), (some ((eH5 false PV.int (eL false (eT2 PV.int PV.int)) (eL false (eT2 PV.int PV.int)) PV.int PV.int) more17)), (some ((eWeb false) other18)), (some (PV.int place24)), (some ((eV PV.int) v25)), d])) (f := (p25_law_grown_f2 v25 row16)) (s0 := ()) d23 rfl ?_ ?_
    · intro q28 _ d27
      refine ⟨_, (tp_one (e := PV.int)), ?_⟩
      refine c_ite ?_
      refine z_ok (t_cmp (b_p (l_var rfl)) (b_p (l_var rfl)) c_ninV) ?_
      refine z_ifs ?_ ?_
      · refine c_ret ?_
        refine z_ok (e_q rfl) ?_
        exact z_rt ⟨rfl, rfl⟩
      exact c_nil ⟨(some (PV.int q28)), rfl⟩
    intro _ d29
    exact c_nil ⟨((some (PV.int place24)), (some ((eV PV.int) v25)), d29), rfl⟩
  rintro _ ⟨d30, d31, d32⟩
  refine c_ret ?_
  refine z_ok (e_q rfl) ?_
  exact z_rt ⟨rfl, rfl⟩
def p26_law_c1  : Int → M (Flow Unit Empty (Int × Int)) := fun k14 =>
 .ok (.rt (k14, (k14 + (1 : Int))))
def p26_law_b (script1 : (List Int)) : M (Flow Bool Empty Bool) :=
 (p0_law_draws script1).bind fun v2 =>
 (p2_law_any v2).bind fun (v3, row4) =>
 (p9_law_given v3).bind fun v5 =>
 (p9_law_given ((5 : Int), [((0 : Int), (2 : Int)), ((2 : Int), (3 : Int)), ((3 : Int), (2 : Int)), ((3 : Int), (1 : Int)), ((4 : Int), (1 : Int))], ([] : List (Int × Int)), (0 : Int), (1 : Int))).bind fun v6 =>
 (p22_law_asks v5 v3).bind fun v10 =>
 (if (!v10) then
 .ok (.rt false)
else
 (p25_law_grown row4 v5 v3).bind fun (v11, row12) =>
 (if (!v11) then
 .ok (.rt false)
else
 (p22_law_asks v6 ((5 : Int), [((0 : Int), (2 : Int)), ((2 : Int), (3 : Int)), ((3 : Int), (2 : Int)), ((3 : Int), (1 : Int)), ((4 : Int), (1 : Int))], ([] : List (Int × Int)), (0 : Int), (1 : Int))).bind fun v13 =>
 (if (!v13) then
 .ok (.rt false)
else
 (gd (sOk (rangeI 0 (39 : Int)).length)).bind fun _ => (lcF (p26_law_c1) (rangeI 0 (39 : Int))).bind fun l15 =>
 (p1_law_take row12 (16 : Int)).bind fun (v20, row21) =>
 (if (decide (v20 = (11 : Int))) then
 (p8_Web___init (40 : Int) l15 [((39 : Int), (20 : Int))] (0 : Int) (1 : Int)).bind fun (_, o22) =>
 (p22_law_asks o22 ((40 : Int), l15, [((39 : Int), (20 : Int))], (0 : Int), (1 : Int))).bind fun v23 =>
 (if (!v23) then
 .ok (.rt false)
else
 (p22_law_asks v5 v3).bind fun v24 =>
 .ok (.rt v24))
else
 (p22_law_asks v5 v3).bind fun v25 =>
 .ok (.rt v25)))))
def p26_law (script1 : (List Int)) : M Bool := toM (p26_law_b script1)
theorem p26_law_ok {n : Nat} (h : 26 < n) (script1 : (List Int)) : CF (fun a => PV.bl a) (fun a : Bool => [some (PV.scr script1)]) (fun z : Unit => [some (PV.scr script1)]) (F n 26 [(PV.scr script1)]) (p26_law script1) := by
  rw [F_at h]
  refine run_simF (d := n26) (e := [(some (PV.scr script1)), none, none, none, none, none, none]) rfl ?_
  refine c_set ?_
  refine x_call ?_
  refine z_ok (a_e (e_q (q_rd (l_var rfl) rfl)) (fz_to (e := PV.scr) script1) a_nil) ?_
  refine z_call (e2 := [(some (PV.scr script1)), none, none, none, none, none, none]) (E3 := fun a => [(some (PV.scr script1)), none, none, none, none, none, none]) rfl rfl (p0_law_draws_ok (n := 26) (by decide) script1) (fun _ => rfl) (fun _ _ => ⟨(), rfl⟩) ?_
  intro v2
  refine z_fz (fz_no _) ?_
  refine c_set ?_
  refine x_call ?_
  refine z_ok (a_mv rfl a_nil) ?_
  refine z_call (e2 := [(some (PV.scr script1)), none, none, none, none, none, none]) (E3 := fun a => [(some (PV.scr script1)), (some ((eL true PV.int) a.2)), none, none, none, none, none]) rfl rfl (p2_law_any_ok (n := 26) (by decide) v2) (fun _ => rfl) (fun d28 _ => ⟨(), rfl⟩) ?_
  rintro ⟨v3, row4⟩
  refine z_fz (fz_to (e := (eH5 true PV.int (eL false (eT2 PV.int PV.int)) (eL false (eT2 PV.int PV.int)) PV.int PV.int)) v3) ?_
  refine c_set ?_
  refine x_call ?_
  refine z_ok (a_e (e_q (q_rd (l_var rfl) rfl)) (fz_to (e := (eH5 false PV.int (eL false (eT2 PV.int PV.int)) (eL false (eT2 PV.int PV.int)) PV.int PV.int)) v3) a_nil) ?_
  refine z_call (e2 := [(some (PV.scr script1)), (some ((eL true PV.int) row4)), (some ((eH5 false PV.int (eL false (eT2 PV.int PV.int)) (eL false (eT2 PV.int PV.int)) PV.int PV.int) v3)), none, none, none, none]) (E3 := fun a => [(some (PV.scr script1)), (some ((eL true PV.int) row4)), (some ((eH5 false PV.int (eL false (eT2 PV.int PV.int)) (eL false (eT2 PV.int PV.int)) PV.int PV.int) v3)), none, none, none, none]) rfl rfl (p9_law_given_ok (n := 26) (by decide) v3) (fun _ => rfl) (fun _ _ => ⟨(), rfl⟩) ?_
  intro v5
  refine z_fz (fz_to (e := (eWeb true)) v5) ?_
  refine c_set ?_
  refine x_call ?_
  refine z_ok (a_e (e_lst (s_cons (e_q rfl) (s_cons (e_lstL ((eT2 PV.int PV.int)) [((0 : Int), (2 : Int)), ((2 : Int), (3 : Int)), ((3 : Int), (2 : Int)), ((3 : Int), (1 : Int)), ((4 : Int), (1 : Int))] (s_cons (e_tup (s_cons (e_q rfl) (s_cons (e_q rfl) s_nil)) rfl rfl) (s_cons (e_tup (s_cons (e_q rfl) (s_cons (e_q rfl) s_nil)) rfl rfl) (s_cons (e_tup (s_cons (e_q rfl) (s_cons (e_q rfl) s_nil)) rfl rfl) (s_cons (e_tup (s_cons (e_q rfl) (s_cons (e_q rfl) s_nil)) rfl rfl) (s_cons (e_tup (s_cons (e_q rfl) (s_cons (e_q rfl) s_nil)) rfl rfl) s_nil))))) rfl) (s_cons (e_lstL ((eT2 PV.int PV.int)) ([] : List (Int × Int)) s_nil rfl) (s_cons (e_q rfl) (s_cons (e_q rfl) s_nil))))) rfl) (fz_to (e := (eH5 true PV.int (eL true (eT2 PV.int PV.int)) (eL true (eT2 PV.int PV.int)) PV.int PV.int)) ((5 : Int), [((0 : Int), (2 : Int)), ((2 : Int), (3 : Int)), ((3 : Int), (2 : Int)), ((3 : Int), (1 : Int)), ((4 : Int), (1 : Int))], ([] : List (Int × Int)), (0 : Int), (1 : Int))) a_nil) ?_
  refine z_call (e2 := [(some (PV.scr script1)), (some ((eL true PV.int) row4)), (some ((eH5 false PV.int (eL false (eT2 PV.int PV.int)) (eL false (eT2 PV.int PV.int)) PV.int PV.int) v3)), (some ((eWeb false) v5)), none, none, none]) (E3 := fun a => [(some (PV.scr script1)), (some ((eL true PV.int) row4)), (some ((eH5 false PV.int (eL false (eT2 PV.int PV.int)) (eL false (eT2 PV.int PV.int)) PV.int PV.int) v3)), (some ((eWeb false) v5)), none, none, none]) rfl rfl (p9_law_given_ok (n := 26) (by decide) ((5 : Int), [((0 : Int), (2 : Int)), ((2 : Int), (3 : Int)), ((3 : Int), (2 : Int)), ((3 : Int), (1 : Int)), ((4 : Int), (1 : Int))], ([] : List (Int × Int)), (0 : Int), (1 : Int))) (fun _ => rfl) (fun _ _ => ⟨(), rfl⟩) ?_
  intro v6
  refine z_fz (fz_to (e := (eWeb true)) v6) ?_
  refine c_ite ?_
  refine x_tor ?_
  refine xto_cons ?_
  refine x_tnot ?_
  refine x_tv ?_
  refine x_Be ?_
  refine x_call ?_
  refine z_ok (a_e (e_q (q_rd (l_var rfl) rfl)) (fz_to (e := (eWeb false)) v5) (a_e (e_q (q_rd (l_var rfl) rfl)) (fz_to (e := (eH5 false PV.int (eL false (eT2 PV.int PV.int)) (eL false (eT2 PV.int PV.int)) PV.int PV.int)) v3) a_nil)) ?_
  refine z_call (e2 := [(some (PV.scr script1)), (some ((eL true PV.int) row4)), (some ((eH5 false PV.int (eL false (eT2 PV.int PV.int)) (eL false (eT2 PV.int PV.int)) PV.int PV.int) v3)), (some ((eWeb false) v5)), (some ((eWeb false) v6)), none, none]) (E3 := fun a => [(some (PV.scr script1)), (some ((eL true PV.int) row4)), (some ((eH5 false PV.int (eL false (eT2 PV.int PV.int)) (eL false (eT2 PV.int PV.int)) PV.int PV.int) v3)), (some ((eWeb false) v5)), (some ((eWeb false) v6)), none, none]) rfl rfl (p22_law_asks_ok (n := 26) (by decide) v5 v3) (fun _ => rfl) (fun _ _ => ⟨(), rfl⟩) ?_
  intro v10
  refine z_of rfl ?_
  refine z_ifb ?_ ?_
  · refine z_ok rfl ?_
    refine z_ifT ?_
    refine c_ret ?_
    refine z_ok (e_q rfl) ?_
    exact z_rt ⟨rfl, rfl⟩
  refine xto_cons ?_
  refine x_tnot ?_
  refine x_tv ?_
  refine x_Be ?_
  refine x_call ?_
  refine z_ok (a_mv rfl (a_e (e_q (q_rd (l_var rfl) rfl)) (fz_to (e := (eWeb false)) v5) (a_e (e_q (q_rd (l_var rfl) rfl)) (fz_to (e := (eH5 false PV.int (eL false (eT2 PV.int PV.int)) (eL false (eT2 PV.int PV.int)) PV.int PV.int)) v3) a_nil))) ?_
  refine z_call (e2 := [(some (PV.scr script1)), none, (some ((eH5 false PV.int (eL false (eT2 PV.int PV.int)) (eL false (eT2 PV.int PV.int)) PV.int PV.int) v3)), (some ((eWeb false) v5)), (some ((eWeb false) v6)), none, none]) (E3 := fun a => [(some (PV.scr script1)), (some ((eL true PV.int) a.2)), (some ((eH5 false PV.int (eL false (eT2 PV.int PV.int)) (eL false (eT2 PV.int PV.int)) PV.int PV.int) v3)), (some ((eWeb false) v5)), (some ((eWeb false) v6)), none, none]) rfl rfl (p25_law_grown_ok (n := 26) (by decide) row4 v5 v3) (fun _ => rfl) (fun d27 _ => ⟨(), rfl⟩) ?_
  rintro ⟨v11, row12⟩
  refine z_of rfl ?_
  refine z_ifb ?_ ?_
  · refine z_ok rfl ?_
    refine z_ifT ?_
    refine c_ret ?_
    refine z_ok (e_q rfl) ?_
    exact z_rt ⟨rfl, rfl⟩
  refine xto_nil ?_
  refine z_ifF ?_
  refine c_ite ?_
  refine x_tnot ?_
  refine x_tv ?_
  refine x_Be ?_
  refine x_call ?_
  refine z_ok (a_e (e_q (q_rd (l_var rfl) rfl)) (fz_to (e := (eWeb false)) v6) (a_e (e_lst (s_cons (e_q rfl) (s_cons (e_lstL ((eT2 PV.int PV.int)) [((0 : Int), (2 : Int)), ((2 : Int), (3 : Int)), ((3 : Int), (2 : Int)), ((3 : Int), (1 : Int)), ((4 : Int), (1 : Int))] (s_cons (e_tup (s_cons (e_q rfl) (s_cons (e_q rfl) s_nil)) rfl rfl) (s_cons (e_tup (s_cons (e_q rfl) (s_cons (e_q rfl) s_nil)) rfl rfl) (s_cons (e_tup (s_cons (e_q rfl) (s_cons (e_q rfl) s_nil)) rfl rfl) (s_cons (e_tup (s_cons (e_q rfl) (s_cons (e_q rfl) s_nil)) rfl rfl) (s_cons (e_tup (s_cons (e_q rfl) (s_cons (e_q rfl) s_nil)) rfl rfl) s_nil))))) rfl) (s_cons (e_lstL ((eT2 PV.int PV.int)) ([] : List (Int × Int)) s_nil rfl) (s_cons (e_q rfl) (s_cons (e_q rfl) s_nil))))) rfl) (fz_to (e := (eH5 true PV.int (eL true (eT2 PV.int PV.int)) (eL true (eT2 PV.int PV.int)) PV.int PV.int)) ((5 : Int), [((0 : Int), (2 : Int)), ((2 : Int), (3 : Int)), ((3 : Int), (2 : Int)), ((3 : Int), (1 : Int)), ((4 : Int), (1 : Int))], ([] : List (Int × Int)), (0 : Int), (1 : Int))) a_nil)) ?_
  refine z_call (e2 := [(some (PV.scr script1)), (some ((eL true PV.int) row12)), (some ((eH5 false PV.int (eL false (eT2 PV.int PV.int)) (eL false (eT2 PV.int PV.int)) PV.int PV.int) v3)), (some ((eWeb false) v5)), (some ((eWeb false) v6)), none, none]) (E3 := fun a => [(some (PV.scr script1)), (some ((eL true PV.int) row12)), (some ((eH5 false PV.int (eL false (eT2 PV.int PV.int)) (eL false (eT2 PV.int PV.int)) PV.int PV.int) v3)), (some ((eWeb false) v5)), (some ((eWeb false) v6)), none, none]) rfl rfl (p22_law_asks_ok (n := 26) (by decide) v6 ((5 : Int), [((0 : Int), (2 : Int)), ((2 : Int), (3 : Int)), ((3 : Int), (2 : Int)), ((3 : Int), (1 : Int)), ((4 : Int), (1 : Int))], ([] : List (Int × Int)), (0 : Int), (1 : Int))) (fun _ => rfl) (fun _ _ => ⟨(), rfl⟩) ?_
  intro v13
  refine z_of rfl ?_
  refine z_ifs ?_ ?_
  · refine c_ret ?_
    refine z_ok (e_q rfl) ?_
    exact z_rt ⟨rfl, rfl⟩
  refine c_set ?_
  refine x_lc ?_
  refine x_r1 ?_
  refine z_ok (e_q rfl) ?_
  refine z_of (w_r1 (by decide)) ?_
  refine z_lc (f := (p26_law_c1)) (e' := (eT2 PV.int PV.int)) rfl ?_ ?_
  · intro k14
    refine ⟨_, (tp_one (e := PV.int)), ?_⟩
    refine z_ok ta_nil ?_
    refine z_ifT ?_
    refine z_ok (e_tup (s_cons (e_q (q_rd (l_var rfl) rfl)) (s_cons (e_bin (b_p (l_var rfl)) (b_e (e_q rfl)) rfl) s_nil)) rfl rfl) ?_
    exact z_rt ⟨rfl, rfl⟩
  intro l15
  refine z_fz (fz_to (e := (eL true (eT2 PV.int PV.int))) l15) ?_
  refine c_ite ?_
  refine x_tand ?_
  refine xta_cons ?_
  refine x_tcmp ?_
  refine x_Be ?_
  refine x_call ?_
  refine z_ok (a_mv rfl (a_e (e_q rfl) (fz_to (e := PV.int) (16 : Int)) a_nil)) ?_
  refine z_call (e2 := [(some (PV.scr script1)), none, (some ((eH5 false PV.int (eL false (eT2 PV.int PV.int)) (eL false (eT2 PV.int PV.int)) PV.int PV.int) v3)), (some ((eWeb false) v5)), (some ((eWeb false) v6)), (some ((eL false (eT2 PV.int PV.int)) l15)), none]) (E3 := fun a => [(some (PV.scr script1)), (some ((eL true PV.int) a.2)), (some ((eH5 false PV.int (eL false (eT2 PV.int PV.int)) (eL false (eT2 PV.int PV.int)) PV.int PV.int) v3)), (some ((eWeb false) v5)), (some ((eWeb false) v6)), (some ((eL false (eT2 PV.int PV.int)) l15)), none]) rfl rfl (p1_law_take_ok (n := 26) (by decide) row12 (16 : Int)) (fun _ => rfl) (fun d26 _ => ⟨(), rfl⟩) ?_
  rintro ⟨v20, row21⟩
  refine z_ok (b_e (e_q rfl)) ?_
  refine z_of (c_eq (e := PV.int) (a := v20) (b := (11 : Int)) (by decide)) ?_
  refine z_ifb ?_ ?_
  · refine xta_cons ?_
    refine x_tnot ?_
    refine x_tv ?_
    refine x_Be ?_
    refine x_call ?_
    refine xv_e ?_
    refine x_make ?_
    refine z_ok (a_e (e_q rfl) (fz_to (e := PV.int) (40 : Int)) (a_e (e_q (q_rd (l_var rfl) rfl)) (fz_to (e := (eL false (eT2 PV.int PV.int))) l15) (a_e (e_lstL ((eT2 PV.int PV.int)) [((39 : Int), (20 : Int))] (s_cons (e_tup (s_cons (e_q rfl) (s_cons (e_q rfl) s_nil)) rfl rfl) s_nil) rfl) (fz_to (e := (eL true (eT2 PV.int PV.int))) [((39 : Int), (20 : Int))]) a_nil))) ?_
    refine z_ok a_nil ?_
    refine z_make (e2 := [(some (PV.scr script1)), (some ((eL true PV.int) row21)), (some ((eH5 false PV.int (eL false (eT2 PV.int PV.int)) (eL false (eT2 PV.int PV.int)) PV.int PV.int) v3)), (some ((eWeb false) v5)), (some ((eWeb false) v6)), (some ((eL false (eT2 PV.int PV.int)) l15)), none]) (E3 := fun _ => [(some (PV.scr script1)), (some ((eL true PV.int) row21)), (some ((eH5 false PV.int (eL false (eT2 PV.int PV.int)) (eL false (eT2 PV.int PV.int)) PV.int PV.int) v3)), (some ((eWeb false) v5)), (some ((eWeb false) v6)), (some ((eL false (eT2 PV.int PV.int)) l15)), none]) rfl rfl rfl (p8_Web___init_ok (n := 26) (by decide) (40 : Int) l15 [((39 : Int), (20 : Int))] (0 : Int) (1 : Int)) (fun _ => rfl) (fun _ => rfl) (fun _ => rfl) (fun _ => rfl) (fun _ _ => ⟨(), rfl⟩) ?_
    rintro ⟨_, o22⟩
    refine xv_e ?_
    refine z_ok (e_lst (s_cons (e_q rfl) (s_cons (e_q (q_rd (l_var rfl) rfl)) (s_cons (e_lstL ((eT2 PV.int PV.int)) [((39 : Int), (20 : Int))] (s_cons (e_tup (s_cons (e_q rfl) (s_cons (e_q rfl) s_nil)) rfl rfl) s_nil) rfl) (s_cons (e_q rfl) (s_cons (e_q rfl) s_nil))))) rfl) ?_
    refine xv_nil ?_
    refine z_call (e2 := [(some (PV.scr script1)), (some ((eL true PV.int) row21)), (some ((eH5 false PV.int (eL false (eT2 PV.int PV.int)) (eL false (eT2 PV.int PV.int)) PV.int PV.int) v3)), (some ((eWeb false) v5)), (some ((eWeb false) v6)), (some ((eL false (eT2 PV.int PV.int)) l15)), none]) (E3 := fun a => [(some (PV.scr script1)), (some ((eL true PV.int) row21)), (some ((eH5 false PV.int (eL false (eT2 PV.int PV.int)) (eL false (eT2 PV.int PV.int)) PV.int PV.int) v3)), (some ((eWeb false) v5)), (some ((eWeb false) v6)), (some ((eL false (eT2 PV.int PV.int)) l15)), none]) rfl (ce (fz_to (e := (eWeb true)) o22) (ce (fz_to (e := (eH5 true PV.int (eL false (eT2 PV.int PV.int)) (eL true (eT2 PV.int PV.int)) PV.int PV.int)) ((40 : Int), l15, [((39 : Int), (20 : Int))], (0 : Int), (1 : Int))) rfl)) (p22_law_asks_ok (n := 26) (by decide) o22 ((40 : Int), l15, [((39 : Int), (20 : Int))], (0 : Int), (1 : Int))) (fun _ => rfl) (fun _ _ => ⟨(), rfl⟩) ?_
    intro v23
    refine z_of rfl ?_
    refine z_ifb ?_ ?_
    · refine xta_nil ?_
      refine z_ifT ?_
      refine c_ret ?_
      refine z_ok (e_q rfl) ?_
      exact z_rt ⟨rfl, rfl⟩
    refine z_ok rfl ?_
    refine z_ifF ?_
    refine c_ret ?_
    refine x_call ?_
    refine z_ok (a_e (e_q (q_rd (l_var rfl) rfl)) (fz_to (e := (eWeb false)) v5) (a_e (e_q (q_rd (l_var rfl) rfl)) (fz_to (e := (eH5 false PV.int (eL false (eT2 PV.int PV.int)) (eL false (eT2 PV.int PV.int)) PV.int PV.int)) v3) a_nil)) ?_
    refine z_call (e2 := [(some (PV.scr script1)), (some ((eL true PV.int) row21)), (some ((eH5 false PV.int (eL false (eT2 PV.int PV.int)) (eL false (eT2 PV.int PV.int)) PV.int PV.int) v3)), (some ((eWeb false) v5)), (some ((eWeb false) v6)), (some ((eL false (eT2 PV.int PV.int)) l15)), none]) (E3 := fun a => [(some (PV.scr script1)), (some ((eL true PV.int) row21)), (some ((eH5 false PV.int (eL false (eT2 PV.int PV.int)) (eL false (eT2 PV.int PV.int)) PV.int PV.int) v3)), (some ((eWeb false) v5)), (some ((eWeb false) v6)), (some ((eL false (eT2 PV.int PV.int)) l15)), none]) rfl rfl (p22_law_asks_ok (n := 26) (by decide) v5 v3) (fun _ => rfl) (fun _ _ => ⟨(), rfl⟩) ?_
    intro v24
    exact z_rt ⟨rfl, rfl⟩
  refine z_ok rfl ?_
  refine z_ifF ?_
  refine c_ret ?_
  refine x_call ?_
  refine z_ok (a_e (e_q (q_rd (l_var rfl) rfl)) (fz_to (e := (eWeb false)) v5) (a_e (e_q (q_rd (l_var rfl) rfl)) (fz_to (e := (eH5 false PV.int (eL false (eT2 PV.int PV.int)) (eL false (eT2 PV.int PV.int)) PV.int PV.int)) v3) a_nil)) ?_
  refine z_call (e2 := [(some (PV.scr script1)), (some ((eL true PV.int) row21)), (some ((eH5 false PV.int (eL false (eT2 PV.int PV.int)) (eL false (eT2 PV.int PV.int)) PV.int PV.int) v3)), (some ((eWeb false) v5)), (some ((eWeb false) v6)), (some ((eL false (eT2 PV.int PV.int)) l15)), none]) (E3 := fun a => [(some (PV.scr script1)), (some ((eL true PV.int) row21)), (some ((eH5 false PV.int (eL false (eT2 PV.int PV.int)) (eL false (eT2 PV.int PV.int)) PV.int PV.int) v3)), (some ((eWeb false) v5)), (some ((eWeb false) v6)), (some ((eL false (eT2 PV.int PV.int)) l15)), none]) rfl rfl (p22_law_asks_ok (n := 26) (by decide) v5 v3) (fun _ => rfl) (fun _ _ => ⟨(), rfl⟩) ?_
  intro v25
  exact z_rt ⟨rfl, rfl⟩
end K05

set_option Elab.async false
set_option linter.all false
set_option maxRecDepth 100000
set_option maxHeartbeats 4000000
namespace K05
open PySem DN L2 SH
/-! ### reaching, plainly -/
inductive Rch (E : Nat → Nat → Prop) (s : Nat) : Nat → Prop
  | refl : Rch E s s
  | step {a b : Nat} : Rch E s a → E a b → Rch E s b
theorem Rch.trans {E : Nat → Nat → Prop} {a b c : Nat} (h : Rch E a b) (k : Rch E b c) : Rch E a c := by
  induction k with
  | refl => exact h
  | step _ e ih => exact .step ih e
theorem Rch.mono {E E' : Nat → Nat → Prop} (hE : ∀ a b, E a b → E' a b) {a b : Nat} (h : Rch E a b) : Rch E' a b := by
  induction h with
  | refl => exact .refl
  | step _ e ih => exact .step ih (hE _ _ e)
theorem Rch.rev {E E' : Nat → Nat → Prop} (hE : ∀ a b, E a b → E' b a) {a b : Nat} (h : Rch E a b) : Rch E' b a := by
  induction h with
  | refl => exact .refl
  | step _ e ih => exact Rch.trans (.step .refl (hE _ _ e)) ih
open Classical in
noncomputable def rowP (n : Nat) (P : Nat → Prop) : List Bool := (List.range n).map fun i => decide (P i)
theorem rowP_len (n : Nat) (P : Nat → Prop) : (rowP n P).length = n := by simp [rowP]
theorem rowP_get {n : Nat} {P : Nat → Prop} {i : Nat} (h : i < n) : (rowP n P)[i]? = some true ↔ P i := by
  classical
  unfold rowP
  rw [List.getElem?_map, List.getElem?_range h]
  simp
theorem rowP_ext {n : Nat} {P : Nat → Prop} {l : List Bool} (hl : l.length = n) (h : ∀ i, i < n → (l[i]? = some true ↔ P i)) : l = rowP n P := by
  apply List.ext_getElem?
  intro i
  rcases Nat.lt_or_ge i n with q | q
  · have h1 := h i q
    have h2 := rowP_get (P := P) q
    have e1 : l[i]? = some (l[i]'(by omega)) := List.getElem?_eq_getElem _
    have e2 : (rowP n P)[i]? = some ((rowP n P)[i]'(by rw [rowP_len]; omega)) := List.getElem?_eq_getElem _
    generalize l[i]'(by omega) = x at e1
    generalize (rowP n P)[i]'(by rw [rowP_len]; omega) = y at e2
    rw [e1] at h1 ⊢
    rw [e2] at h2 ⊢
    have h3 := h1.trans h2.symm
    cases x <;> cases y <;> simp_all
  · rw [List.getElem?_eq_none (by omega), List.getElem?_eq_none (by rw [rowP_len]; omega)]
/-- one turn of the walk -/
def wkStep (p : List Bool × List Nat) (j : Nat) : List Bool × List Nat := if p.1[j]? = some true then p else (p.1.set j true, p.2 ++ [j])
def cntF (f : List Bool) : Nat := f.countP (fun b => !b)
structure Inv (n s : Nat) (E : Nat → Nat → Prop) (f : List Bool) (w : List Nat) : Prop where
  len : f.length = n
  wl : ∀ i ∈ w, f[i]? = some true
  hs : f[s]? = some true
  snd : ∀ i : Nat, f[i]? = some true → Rch E s i
  cmp : ∀ i : Nat, f[i]? = some true → i ∈ w ∨ ∀ j, E i j → f[j]? = some true
theorem cntF_set : ∀ (f : List Bool) (j : Nat), j < f.length → f[j]? ≠ some true → cntF (f.set j true) + 1 = cntF f
  | [], _, h, _ => absurd h (by simp)
  | b :: f, 0, _, h2 => by
    cases b with
    | true => exact absurd rfl h2
    | false => simp [cntF]
  | b :: f, j + 1, h, h2 => by
    have ih := cntF_set f j (by simpa using h) (by simpa using h2)
    unfold cntF at *
    rw [List.set_cons_succ, List.countP_cons, List.countP_cons]
    omega
theorem wk_fold {n s at_ : Nat} {E : Nat → Nat → Prop} : ∀ (xs : List Nat) (f : List Bool) (w : List Nat), f.length = n → (∀ i ∈ w, f[i]? = some true) → f[s]? = some true → (∀ i : Nat, f[i]? = some true → Rch E s i) →
    (∀ i : Nat, f[i]? = some true → i = at_ ∨ i ∈ w ∨ ∀ j, E i j → f[j]? = some true) → f[at_]? = some true → (∀ j ∈ xs, E at_ j ∧ j < n) →
    ∃ (f' : List Bool) (w' : List Nat), xs.foldl wkStep (f, w) = (f', w') ∧ f'.length = n ∧ (∀ i ∈ w', f'[i]? = some true) ∧ f'[s]? = some true ∧ (∀ i : Nat, f'[i]? = some true → Rch E s i) ∧
      (∀ i : Nat, f'[i]? = some true → i = at_ ∨ i ∈ w' ∨ ∀ j, E i j → f'[j]? = some true) ∧ (∀ i : Nat, f[i]? = some true → f'[i]? = some true) ∧ (∀ j ∈ xs, f'[j]? = some true) ∧ 2 * cntF f' + w'.length ≤ 2 * cntF f + w.length
  | [], f, w, h1, h2, h3, h4, h5, h6, h7 => ⟨f, w, rfl, h1, h2, h3, h4, h5, fun _ h => h, (fun _ h => nomatch h), Nat.le_refl _⟩
  | x :: xs, f, w, h1, h2, h3, h4, h5, h6, h7 => by
    rw [List.foldl_cons]
    by_cases q : f[x]? = some true
    · obtain ⟨f', w', e, a1, a2, a3, a4, a5, a6, a7, a8⟩ := wk_fold xs f w h1 h2 h3 h4 h5 h6 fun j hj => h7 j (List.mem_cons_of_mem _ hj)
      refine ⟨f', w', by unfold wkStep; rw [if_pos q]; exact e, a1, a2, a3, a4, a5, a6, ?_, a8⟩
      intro j hj
      rcases List.mem_cons.mp hj with z | z
      · subst z; exact a6 _ q
      · exact a7 j z
    · have hx := h7 x List.mem_cons_self
      have mono : ∀ i : Nat, f[i]? = some true → (f.set x true)[i]? = some true := fun i hi => by
        rw [List.getElem?_set]
        split
        · rename_i z; subst z; rw [if_pos (by omega)]
        · exact hi
      have new : (f.set x true)[x]? = some true := by rw [List.getElem?_set]; simp; omega
      have old : ∀ i, (f.set x true)[i]? = some true → i = x ∨ f[i]? = some true := fun i hi => by
        rw [List.getElem?_set] at hi
        by_cases z : x = i
        · exact .inl z.symm
        · rw [if_neg z] at hi; exact .inr hi
      obtain ⟨f', w', e, a1, a2, a3, a4, a5, a6, a7, a8⟩ := wk_fold xs (f.set x true) (w ++ [x]) (by simpa using h1)
        (fun i hi => by
          rcases List.mem_append.mp hi with z | z
          · exact mono _ (h2 i z)
          · have : i = x := by simpa using z
            subst this; exact new)
        (mono _ h3)
        (fun i hi => by
          rcases old i hi with z | z
          · subst z; exact .step (h4 _ h6) hx.1
          · exact h4 i z)
        (fun i hi => by
          rcases old i hi with z | z
          · subst z; exact .inr (.inl (by simp))
          · rcases h5 i z with r | r | r
            · exact .inl r
            · exact .inr (.inl (by simp [r]))
            · exact .inr (.inr fun j hj => mono _ (r j hj)))
        (mono _ h6) (fun j hj => h7 j (List.mem_cons_of_mem _ hj))
      have cn := cntF_set f x (by omega) q
      refine ⟨f', w', by unfold wkStep; rw [if_neg q]; exact e, a1, a2, a3, a4, a5, fun i hi => a6 i (mono i hi), ?_, by simp at a8; omega⟩
      intro j hj
      rcases List.mem_cons.mp hj with z | z
      · subst z; exact a6 _ new
      · exact a7 j z
theorem inv_step {n s at_ : Nat} {E : Nat → Nat → Prop} {f : List Bool} {w xs : List Nat} (h : Inv n s E f (w ++ [at_])) (hx : ∀ j, j ∈ xs ↔ E at_ j) (hn : ∀ j ∈ xs, j < n) :
    ∃ (f' : List Bool) (w' : List Nat), xs.foldl wkStep (f, w) = (f', w') ∧ Inv n s E f' w' ∧ 2 * cntF f' + w'.length < 2 * cntF f + (w ++ [at_]).length := by
  obtain ⟨f', w', e, a1, a2, a3, a4, a5, a6, a7, a8⟩ := wk_fold (at_ := at_) (n := n) (s := s) (E := E) xs f w h.len (fun i hi => h.wl i (by simp [hi])) h.hs h.snd
    (fun i hi => by
      rcases h.cmp i hi with z | z
      · rcases List.mem_append.mp z with z | z
        · exact .inr (.inl z)
        · exact .inl (by simpa using z)
      · exact .inr (.inr z))
    (h.wl _ (by simp)) (fun j hj => ⟨(hx j).mp hj, hn j hj⟩)
  refine ⟨f', w', e, ⟨a1, a2, a3, a4, fun i hi => ?_⟩, by simp; omega⟩
  rcases a5 i hi with z | z | z
  · subst z; exact .inr fun j hj => a7 j ((hx j).mpr hj)
  · exact .inl z
  · exact .inr z
theorem inv_end {n s : Nat} {E : Nat → Nat → Prop} {f : List Bool} (h : Inv n s E f []) : f = rowP n (Rch E s) := rowP_ext h.len fun i hi => ⟨h.snd i, fun r => by
  have : ∀ j, Rch E s j → f[j]? = some true := fun j r => by
    induction r with
    | refl => exact h.hs
    | step _ e ih =>
      rcases h.cmp _ ih with z | z
      · exact nomatch z
      · exact z _ e
  exact this i r⟩
end K05

set_option Elab.async false
set_option linter.all false
set_option maxRecDepth 100000
set_option maxHeartbeats 4000000
namespace K05
open PySem DN L2 SH
/-! ### draws -/
theorem take_int (row : List Int) (m : Int) (hm : 0 < m) : ∃ (v : Nat) (row' : List Int), (v : Int) < m ∧ p1_law_take row m = .ok ((v : Int), row') := by
  rcases List.eq_nil_or_concat row with e | ⟨l, x, e⟩
  · subst e
    exact ⟨0, [], hm, rfl⟩
  · rw [List.concat_eq_append] at e
    subst e
    have h1 := Int.emod_lt_of_pos x hm
    have h2 := Int.emod_nonneg x (show m ≠ 0 by omega)
    refine ⟨(x % m).toNat, l, by omega, ?_⟩
    have e : ¬ ((l.length : Int) + 1 = 0) := by omega
    rw [Int.toNat_of_nonneg h2]
    simp [p1_law_take, p1_law_take_b, e, hm]
theorem take_any (row : List Int) (m : Nat) (hm : 0 < m) : ∃ (v : Nat) (row' : List Int), v < m ∧ p1_law_take row (m : Int) = .ok ((v : Int), row') := by
  obtain ⟨v, row', h1, h2⟩ := take_int row m (by omega)
  exact ⟨v, row', by omega, h2⟩
theorem draws (ns : List Int) (hn : ns.length ≤ 63) : ∃ row, p0_law_draws ns = .ok row := by
  have hr : min (ns.length : Int) 63 = ((ns.length : Nat) : Int) := by omega
  obtain ⟨row, h1, h2⟩ := forF_inv (τ := Empty) (f := p0_law_draws_f1 ns) (rangeI 0 (min (ns.length : Int) 63)) (fun i r => r.length ≤ 48 * i) [] (by simp) (fun i x s hx hs => by
    have hm := List.mem_of_getElem? hx
    rw [mem_rangeI, hr] at hm
    have hi : i < 63 := by
      have := (List.getElem?_eq_some_iff.mp hx).1
      rw [rangeI_len, hr] at this
      omega
    have hxx : x = ((x.toNat : Nat) : Int) := by omega
    have ha : atI ns x = some (ns[x.toNat]'(by omega)) := by
      have z := atI_nat' (l := ns) (j := x.toNat)
      rw [← hxx] at z
      rw [z]
      exact List.getElem?_eq_getElem _
    unfold p0_law_draws_f1
    rw [ha]
    simp only [M.of_some, M.bind_ok]
    generalize ns[x.toNat]'(by omega) = y
    have loop1 : ∀ c : Int, ∃ r' : List Int × Int, forF (τ := List Int) p0_law_draws_f2 (rangeI 0 48) (s, c) = .ok (.nx r') ∧ r'.1.length ≤ s.length + 48 := fun c => by
      obtain ⟨r', q1, q2⟩ := forF_inv (τ := List Int) (f := p0_law_draws_f2) (rangeI 0 48) (fun i r => r.1.length ≤ s.length + i) (s, c) (by simp) (fun i x ⟨r, c⟩ hx hr => by
        have hi : i < 48 := (List.getElem?_eq_some_iff.mp hx).1
        have hr : r.length ≤ s.length + i := hr
        unfold p0_law_draws_f2
        have hz := szd (n := r.length) (by omega)
        by_cases hc : 0 < c
        · exact ⟨(r ++ [c % 60], c / 60), .inl (by simp only [hc, hz, decide_true, if_true, gd_true, M.bind_ok]), by simp; omega⟩
        · exact ⟨(r, c), .inl (by simp only [hc, decide_false, Bool.false_eq_true, if_false]), by show r.length ≤ _; omega⟩)
      exact ⟨r', q1, q2⟩
    have loop2 : ∀ c : Int, ∃ r' : List Int × Int, forF (τ := List Int) (p0_law_draws_f3 x) (rangeI 0 5) (s, c) = .ok (.nx r') ∧ r'.1.length ≤ s.length + 5 := fun c => by
      obtain ⟨r', q1, q2⟩ := forF_inv (τ := List Int) (f := p0_law_draws_f3 x) (rangeI 0 5) (fun i r => r.1.length ≤ s.length + i) (s, c) (by simp) (fun i x_ ⟨r, c⟩ hx hr => by
        have hi : i < 5 := (List.getElem?_eq_some_iff.mp hx).1
        have hr : r.length ≤ s.length + i := hr
        unfold p0_law_draws_f3
        have hz := szd (n := r.length) (by omega)
        exact ⟨(r ++ [(c * 69069 + x_ * 12345 + x + 1) % 4294967291 / 64], (c * 69069 + x_ * 12345 + x + 1) % 4294967291), .inl (by simp only [hz, gd_true, M.bind_ok]), by simp; omega⟩)
      exact ⟨r', q1, q2⟩
    have tail : ∀ c sh : Int, ∃ s' : List Int, (if decide ((10 : Int) ^ (Int.toNat 18) ≤ c) then
        (forF (τ := List Int) p0_law_draws_f2 (rangeI 0 48) (s, c)).andThen fun (x : List Int × Int) => match x with | (row19, cell20) => M.ok (Flow.nx row19)
      else (forF (τ := List Int) (p0_law_draws_f3 x) (rangeI 0 5) (s, (c * 16807 + x * 7919 + sh * 104729 + 3) % 2147483647)).andThen fun (x : List Int × Int) => match x with | (row27, seed28) => M.ok (Flow.nx row27)) = (.ok (.nx s') : M (Flow (List Int) (List Int) (List Int))) ∧ s'.length ≤ 48 * (i + 1) := fun c sh => by
      by_cases hc : (10 : Int) ^ (Int.toNat 18) ≤ c
      · obtain ⟨r', q1, q2⟩ := loop1 c
        refine ⟨r'.1, ?_, by omega⟩
        rw [if_pos (decide_eq_true hc), q1]
        rfl
      · obtain ⟨r', q1, q2⟩ := loop2 ((c * 16807 + x * 7919 + sh * 104729 + 3) % 2147483647)
        refine ⟨r'.1, ?_, by omega⟩
        rw [if_neg (by simpa using hc), q1]
        rfl
    by_cases hy : y < 0
    · obtain ⟨s', q1, q2⟩ := tail (0 - y) 1
      refine ⟨s', .inl ?_, q2⟩
      rw [if_pos (decide_eq_true hy)]
      exact q1
    · obtain ⟨s', q1, q2⟩ := tail y 0
      refine ⟨s', .inl ?_, q2⟩
      rw [if_neg (by simpa using hy)]
      exact q1)
  refine ⟨row.reverse, ?_⟩
  unfold p0_law_draws p0_law_draws_b
  rw [h1, rgOk_of (by omega) (by omega)]
  rfl
/-! ### webs -/
structure Wb where
  n : Nat
  ps : List (Nat × Nat)
  ts : List (Nat × Nat)
  near : Nat
  far : Nat
def inW (m : Nat) (l : List (Nat × Nat)) : Prop := ∀ p ∈ l, p.1 < m ∧ p.2 < m
structure Wb.ok (w : Wb) : Prop where
  n2 : 2 ≤ w.n
  n40 : w.n ≤ 40
  ps : inW w.n w.ps
  ts : inW w.n w.ts
  lp : w.ps.length ≤ 60
  lt : w.ts.length ≤ 60
  near : w.near < w.n
  far : w.far < w.n
  ne : w.near ≠ w.far
def cp (p : Nat × Nat) : Int × Int := ((p.1 : Int), (p.2 : Int))
def Wb.web (w : Wb) : Web := ⟨(w.n : Int), w.ps.map cp, w.ts.map cp, (w.near : Int), (w.far : Int)⟩
def Wb.tup (w : Wb) : Int × List (Int × Int) × List (Int × Int) × Int × Int := ((w.n : Int), w.ps.map cp, w.ts.map cp, (w.near : Int), (w.far : Int))
theorem whole_ok (x lo hi : Int) (h1 : lo ≤ x) (h2 : x ≤ hi) : p4_whole x lo hi = .ok x := by
  have e1 : ¬ x < lo := by omega
  have e2 : ¬ hi < x := by omega
  simp [p4_whole, p4_whole_b, p3_is_whole, p3_is_whole_b, e1, e2]
theorem whole_out (x lo hi : Int) (h : x < lo ∨ hi < x) : p4_whole x lo hi = .exc 1 := by
  by_cases e1 : x < lo
  · simp [p4_whole, p4_whole_b, p3_is_whole, p3_is_whole_b, e1]
  · have e2 : hi < x := by omega
    simp [p4_whole, p4_whole_b, p3_is_whole, p3_is_whole_b, e1, e2]
theorem two_ok (p : Nat × Nat) (m : Nat) (h1 : p.1 < m) (h2 : p.2 < m) : p6_two_places (cp p) (m : Int) = .ok (cp p) := by
  have w1 := whole_ok p.1 0 ((m : Int) - 1) (by omega) (by omega)
  have w2 := whole_ok p.2 0 ((m : Int) - 1) (by omega) (by omega)
  simp [p6_two_places, p6_two_places_b, p5_row_of_1, p5_row_of_1_b, cp, w1, w2]
theorem pairs_lc (ps : List (Nat × Nat)) (m : Nat) (hp : inW m ps) (f : Int × Int → M (Flow Unit Empty (Int × Int))) (hf : ∀ x, f x = (M.nox (p6_two_places x (m : Int))).bind fun v5 => .ok (.rt v5)) : lcF f (ps.map cp) = .ok (ps.map cp) := by
  have := lcF_all (f := f) id (ps.map cp) (fun x hx => by
    obtain ⟨p, hpm, rfl⟩ := List.mem_map.mp hx
    obtain ⟨h1, h2⟩ := hp p hpm
    rw [hf, two_ok p m h1 h2]
    rfl)
  rw [this, List.map_id]
theorem pairs_ok (ps : List (Nat × Nat)) (m : Nat) (hp : inW m ps) (hl : ps.length ≤ 1000) : p7_place_pairs (ps.map cp) (m : Int) = .ok (ps.map cp) := by
  unfold p7_place_pairs p7_place_pairs_b p5_row_of p5_row_of_b
  simp only [toM_rt, M.bind_ok]
  rw [sOk_le' (by simp; omega), pairs_lc ps m hp (p7_place_pairs_c1 (m : Int)) (fun x => rfl)]
  rfl
theorem pairs_ok1 (ps : List (Nat × Nat)) (m : Nat) (hp : inW m ps) (hl : ps.length ≤ 1000) : p7_place_pairs_1 (ps.map cp) (m : Int) = .ok (ps.map cp) := by
  unfold p7_place_pairs_1 p7_place_pairs_1_b p5_row_of_2 p5_row_of_2_b
  simp only [toM_rt, M.bind_ok]
  rw [sOk_le' (by simp; omega), pairs_lc ps m hp (p7_place_pairs_1_c1 (m : Int)) (fun x => rfl)]
  rfl
section
variable (w : Wb) (hw : w.ok)
include hw
theorem init_ok : p8_Web___init (w.n : Int) (w.ps.map cp) (w.ts.map cp) (w.near : Int) (w.far : Int) = .ok ((), w.web) := by
  obtain ⟨h1, h2, h3, h4, h5, h6, h7, h8, h9⟩ := hw
  have w1 := whole_ok w.n 2 40 (by omega) (by omega)
  have w2 := whole_ok w.near 0 ((w.n : Int) - 1) (by omega) (by omega)
  have w3 := whole_ok w.far 0 ((w.n : Int) - 1) (by omega) (by omega)
  have q1 := pairs_ok w.ps w.n h3 (by omega)
  have q2 := pairs_ok w.ts w.n h4 (by omega)
  have g1 : ¬ (60 : Int) < (w.ps.length : Int) := by omega
  have g2 : ¬ (60 : Int) < (w.ts.length : Int) := by omega
  have g3 : ¬ ((w.near : Int) = (w.far : Int)) := by omega
  simp [p8_Web___init, p8_Web___init_b, w1, w2, w3, q1, q2, g1, g2, g3, Wb.web]
theorem init_ok1 : p8_Web___init_1 (w.n : Int) (w.ps.map cp) (w.ts.map cp) (w.near : Int) (w.far : Int) = .ok ((), w.web) := by
  obtain ⟨h1, h2, h3, h4, h5, h6, h7, h8, h9⟩ := hw
  have w1 := whole_ok w.n 2 40 (by omega) (by omega)
  have w2 := whole_ok w.near 0 ((w.n : Int) - 1) (by omega) (by omega)
  have w3 := whole_ok w.far 0 ((w.n : Int) - 1) (by omega) (by omega)
  have q1 := pairs_ok w.ps w.n h3 (by omega)
  have q2 := pairs_ok1 w.ts w.n h4 (by omega)
  have g1 : ¬ (60 : Int) < (w.ps.length : Int) := by omega
  have g2 : ¬ (60 : Int) < (w.ts.length : Int) := by omega
  have g3 : ¬ ((w.near : Int) = (w.far : Int)) := by omega
  simp [p8_Web___init_1, p8_Web___init_1_b, w1, w2, w3, q1, q2, g1, g2, g3, Wb.web]
theorem init_ok2 : p8_Web___init_2 (w.n : Int) (w.ps.map cp) (w.ts.map cp) (w.near : Int) (w.far : Int) = .ok ((), w.web) := by
  obtain ⟨h1, h2, h3, h4, h5, h6, h7, h8, h9⟩ := hw
  have w1 := whole_ok w.n 2 40 (by omega) (by omega)
  have w2 := whole_ok w.near 0 ((w.n : Int) - 1) (by omega) (by omega)
  have w3 := whole_ok w.far 0 ((w.n : Int) - 1) (by omega) (by omega)
  have q1 := pairs_ok1 w.ps w.n h3 (by omega)
  have q2 := pairs_ok w.ts w.n h4 (by omega)
  have g1 : ¬ (60 : Int) < (w.ps.length : Int) := by omega
  have g2 : ¬ (60 : Int) < (w.ts.length : Int) := by omega
  have g3 : ¬ ((w.near : Int) = (w.far : Int)) := by omega
  simp [p8_Web___init_2, p8_Web___init_2_b, w1, w2, w3, q1, q2, g1, g2, g3, Wb.web]
theorem given_ok : p9_law_given w.tup = .ok w.web := by
  unfold p9_law_given p9_law_given_b Wb.tup
  rw [init_ok w hw]
  rfl
end
/-! ### the drawn web -/
theorem inW_snoc {m : Nat} {ps : List (Nat × Nat)} {a b : Nat} (h : inW m ps) (ha : a < m) (hb : b < m) : inW m (ps ++ [(a, b)]) := fun p hp => by
  rcases List.mem_append.mp hp with z | z
  · exact h p z
  · have e : p = (a, b) := by simpa using z
    subst e
    exact ⟨ha, hb⟩
theorem nextI (t v m : Nat) : ((t : Int) + 1 + (v : Int)) % (m : Int) = (((t + 1 + v) % m : Nat) : Int) := by
  have : (t : Int) + 1 + (v : Int) = ((t + 1 + v : Nat) : Int) := by omega
  rw [this]
  exact (Int.natCast_emod _ _).symm
theorem drawn (m c : Nat) (hm : 0 < m) (hc : c ≤ 100) (row : List Int) (f : Int → (List Int × List (Int × Int)) → M (Flow (List Int × List (Int × Int)) (List Int × List (Int × Int)) ((Int × List (Int × Int) × List (Int × Int) × Int × Int) × List Int)))
    (hf : ∀ k r ps, f k (r, ps) = (p1_law_take r (m : Int)).bind fun (v16, row17) => (p1_law_take row17 (m : Int)).bind fun (v18, row19) => (gd (decide ((0 : Int) < (m : Int)))).bind fun _ => (gd (decide (ps.length < sizeLine))).bind fun _ => .ok (.nx (row19, (ps ++ [(v16, (((v16 + (1 : Int)) + v18) % (m : Int)))])))) :
    ∃ row' ps, inW m ps ∧ ps.length = c ∧ forF (τ := Empty) f (rangeI 0 (c : Int)) (row, []) = .ok (.nx (row', ps.map cp)) := by
  obtain ⟨⟨row', q⟩, h1, ps, h2, h3, h4⟩ := forF_inv (τ := Empty) (f := f) (rangeI 0 (c : Int)) (fun i s => ∃ ps, s.2 = ps.map cp ∧ inW m ps ∧ ps.length = i) (row, []) ⟨[], rfl, (fun _ h => nomatch h), rfl⟩ (fun i x ⟨r, q⟩ hx ⟨ps, h1, h2, h3⟩ => by
    have hi : i < c := by
      have := (List.getElem?_eq_some_iff.mp hx).1
      rw [rangeI_len] at this
      omega
    have h1 : q = ps.map cp := h1
    subst h1
    obtain ⟨v1, r1, hv1, t1⟩ := take_any r m hm
    obtain ⟨v2, r2, hv2, t2⟩ := take_any r1 m hm
    refine ⟨(r2, (ps ++ [(v1, (v1 + 1 + v2) % m)]).map cp), .inl ?_, _, rfl, inW_snoc h2 hv1 (Nat.mod_lt _ hm), by simp [h3]⟩
    have hz := szd (n := (ps.map cp).length) (by simp; omega)
    have hm' : (0 : Int) < m := by omega
    rw [hf, t1]
    simp only [M.bind_ok]
    rw [t2]
    simp only [M.bind_ok, hz, hm', decide_true, gd_true, nextI, List.map_append, List.map_cons, List.map_nil, cp])
  have h2 : q = ps.map cp := h2
  subst h2
  refine ⟨row', ps, h3, ?_, h1⟩
  rw [h4, rangeI_len]
  omega
theorem pick {v : Nat} (l : List Nat) (hv : v < l.length) (P : Nat → Prop) (h : ∀ x ∈ l, P x) : ∃ c : Nat, P c ∧ atI (l.map fun x : Nat => (x : Int)) (v : Int) = some (c : Int) := by
  refine ⟨l[v], h _ (List.getElem_mem hv), ?_⟩
  rw [atI_nat', List.getElem?_map, List.getElem?_eq_getElem hv]
  rfl
theorem any_ok (row : List Int) : ∃ w row', Wb.ok w ∧ w.n ≤ 9 ∧ w.ps.length ≤ 13 ∧ w.ts.length ≤ 4 ∧ p2_law_any row = .ok (w.tup, row') := by
  obtain ⟨v, r1, hv, t1⟩ := take_int row 8 (by decide)
  obtain ⟨m, hm, e⟩ := pick (v := v) [4, 3, 5, 2, 6, 9, 7, 8] (by simp; omega) (fun c => 2 ≤ c ∧ c ≤ 9) (by decide)
  obtain ⟨v1, r2, hv1, t2⟩ := take_int r1 8 (by decide)
  obtain ⟨c, hc, e2⟩ := pick (v := v1) [5, 3, 8, 1, 0, 11, 2, 13] (by simp; omega) (fun c => c ≤ 13) (by decide)
  obtain ⟨r3, ps, hp, lp, s1⟩ := drawn m c (by omega) (by omega) r2 (p2_law_any_f1 (m : Int)) (fun _ _ _ => rfl)
  obtain ⟨v2, r4, hv2, t3⟩ := take_int r3 6 (by decide)
  obtain ⟨d, hd, e3⟩ := pick (v := v2) [0, 1, 0, 2, 0, 4] (by simp; omega) (fun c => c ≤ 4) (by decide)
  obtain ⟨r5, ts, ht, lt, s2⟩ := drawn m d (by omega) (by omega) r4 (p2_law_any_f2 (m : Int)) (fun _ _ _ => rfl)
  obtain ⟨v3, r6, hv3, t4⟩ := take_any r5 m (by omega)
  obtain ⟨v4, r7, hv4, t5⟩ := take_any r6 (m - 1) (by omega)
  have hne : v3 ≠ (v3 + 1 + v4) % m := by
    intro z
    rcases Nat.lt_or_ge (v3 + 1 + v4) m with q | q
    · rw [Nat.mod_eq_of_lt q] at z; omega
    · rw [Nat.mod_eq_sub_mod q, Nat.mod_eq_of_lt (by omega)] at z; omega
  refine ⟨⟨m, ps, ts, v3, (v3 + 1 + v4) % m⟩, r7, ⟨hm.1, by simp; omega, hp, ht, by simp; omega, by simp; omega, hv3, Nat.mod_lt _ (by omega), hne⟩, hm.2, by simp; omega, by simp; omega, ?_⟩
  have e5 : ((m - 1 : Nat) : Int) = (m : Int) - 1 := by omega
  rw [e5] at t5
  have hm0 : (0 : Int) < m := by omega
  have l1 : [(4 : Int), 3, 5, 2, 6, 9, 7, 8] = [4, 3, 5, 2, 6, 9, 7, 8].map fun x : Nat => (x : Int) := rfl
  have l2 : [(5 : Int), 3, 8, 1, 0, 11, 2, 13] = [5, 3, 8, 1, 0, 11, 2, 13].map fun x : Nat => (x : Int) := rfl
  have l3 : [(0 : Int), 1, 0, 2, 0, 4] = [0, 1, 0, 2, 0, 4].map fun x : Nat => (x : Int) := rfl
  unfold p2_law_any p2_law_any_b
  rw [l1, l2, l3]
  rw [t1]
  simp only [M.bind_ok]
  rw [e]
  simp only [M.bind_ok, M.of_some]
  rw [t2]
  simp only [M.bind_ok]
  rw [e2]
  simp only [M.bind_ok, M.of_some]
  rw [rgOk_of (by omega) (by omega), s1]
  simp only [M.bind_ok, gd_true, andThen_nx]
  rw [t3]
  simp only [M.bind_ok]
  rw [e3]
  simp only [M.bind_ok, M.of_some]
  rw [rgOk_of (by omega) (by omega), s2]
  simp only [M.bind_ok, gd_true, andThen_nx]
  rw [t4]
  simp only [M.bind_ok]
  rw [t5]
  simp only [M.bind_ok, hm0, decide_true, gd_true, nextI, toM_rt, Wb.tup]
end K05

set_option Elab.async false
set_option linter.all false
set_option maxRecDepth 100000
set_option maxHeartbeats 4000000
namespace K05
open PySem DN L2 SH
def ci (l : List Nat) : List Int := l.map fun x : Nat => (x : Int)
def cL (L : List (List Nat)) : List (List Int) := L.map ci
/-! ### rows of moves -/
structure Adj (n : Nat) (Ed : Nat → Nat → Prop) (L : List (List Nat)) : Prop where
  len : L.length = n
  mem : ∀ (i : Nat) (r : List Nat), L[i]? = some r → ∀ j, j ∈ r ↔ Ed i j
  lt : ∀ (i : Nat) (r : List Nat), L[i]? = some r → ∀ j ∈ r, j < n
structure AdjC (n c : Nat) (Ed : Nat → Nat → Prop) (L : List (List Nat)) : Prop extends Adj n Ed L where
  sz : ∀ (i : Nat) (r : List Nat), L[i]? = some r → r.length ≤ c
def addR (L : List (List Nat)) (a b : Nat) : List (List Nat) := L.set a (L.getD a [] ++ [b])
theorem addR_get {L : List (List Nat)} {a b i : Nat} {r : List Nat} (h : (addR L a b)[i]? = some r) : (i = a ∧ ∃ r0, L[i]? = some r0 ∧ r = r0 ++ [b]) ∨ (i ≠ a ∧ L[i]? = some r) := by
  unfold addR at h
  rw [List.getElem?_set] at h
  by_cases q : a = i
  · subst q
    rw [if_pos rfl] at h
    split at h
    · rename_i hl
      refine .inl ⟨rfl, L.getD a [], ?_, by simpa using h.symm⟩
      rw [List.getD_eq_getElem?_getD, List.getElem?_eq_getElem hl]
      rfl
    · exact absurd h (by simp)
  · rw [if_neg q] at h
    exact .inr ⟨fun z => q z.symm, h⟩
theorem adj_add {n c : Nat} {Ed : Nat → Nat → Prop} {L : List (List Nat)} (h : AdjC n c Ed L) {a b : Nat} (ha : a < n) (hb : b < n) : AdjC n (c + 1) (fun i j => Ed i j ∨ (i = a ∧ j = b)) (addR L a b) where
  len := by unfold addR; rw [List.length_set]; exact h.len
  mem := fun i r e j => by
    rcases addR_get e with ⟨q, r0, e0, er⟩ | ⟨q, e0⟩
    · subst er
      have := h.mem i r0 e0 j
      simp [this, q]
    · have := h.mem i r e0 j
      simp [this, q]
  lt := fun i r e j hj => by
    rcases addR_get e with ⟨q, r0, e0, er⟩ | ⟨q, e0⟩
    · subst er
      rcases List.mem_append.mp hj with z | z
      · exact h.lt i r0 e0 j z
      · have : j = b := by simpa using z
        omega
    · exact h.lt i r e0 j hj
  sz := fun i r e => by
    rcases addR_get e with ⟨q, r0, e0, er⟩ | ⟨q, e0⟩
    · subst er
      have := h.sz i r0 e0
      simp; omega
    · have := h.sz i r e0
      omega
theorem AdjC.ext {n c c' : Nat} {Ed Ed' : Nat → Nat → Prop} {L : List (List Nat)} (h : AdjC n c Ed L) (he : ∀ i j, Ed i j ↔ Ed' i j) (hc : c ≤ c') : AdjC n c' Ed' L where
  len := h.len
  mem := fun i r e j => (h.mem i r e j).trans (he i j)
  lt := h.lt
  sz := fun i r e => Nat.le_trans (h.sz i r e) hc
theorem adj0 (n : Nat) : AdjC n 0 (fun _ _ => False) (List.replicate n []) where
  len := by simp
  mem := fun i r e j => by
    rw [List.getElem?_replicate] at e
    split at e
    · have : r = [] := by simpa using e.symm
      subst this; simp
    · exact absurd e (by simp)
  lt := fun i r e j hj => by
    rw [List.getElem?_replicate] at e
    split at e
    · have : r = [] := by simpa using e.symm
      subst this; exact nomatch hj
    · exact absurd e (by simp)
  sz := fun i r e => by
    rw [List.getElem?_replicate] at e
    split at e
    · have : r = [] := by simpa using e.symm
      subst this; simp
    · exact absurd e (by simp)
/-- one append, as the plain programs write it -/
theorem app_ok {σ τ ρ : Type} {n c : Nat} {Ed : Nat → Nat → Prop} {L : List (List Nat)} (h : AdjC n c Ed L) (hc : c ≤ 1000) {a b : Nat} (ha : a < n) (k : List (List Int) → M (Flow σ τ ρ)) :
    ((M.of (atI (cL L) (a : Int))).bind fun r => (gd (decide (r.length < sizeLine))).bind fun _ => (M.of (setI (cL L) (a : Int) (r ++ [(b : Int)]))).bind k) = k (cL (addR L a b)) := by
  have hl : a < L.length := by rw [h.len]; exact ha
  have hr : L[a]? = some (L.getD a []) := by rw [List.getD_eq_getElem?_getD, List.getElem?_eq_getElem hl]; rfl
  have g : (cL L)[a]? = some (ci (L.getD a [])) := by unfold cL; rw [List.getElem?_map, hr]; rfl
  have hz := szd (n := (ci (L.getD a [])).length) (by unfold ci; rw [List.length_map]; have := h.sz a _ hr; omega)
  rw [atI_nat', g]
  simp only [M.of_some, M.bind_ok, hz, gd_true]
  rw [setI_nat (by unfold cL; rw [List.length_map]; exact hl)]
  simp only [M.of_some, M.bind_ok]
  congr 1
  unfold cL addR
  rw [List.map_set]
  congr 1
  unfold ci
  rw [List.map_append]
  rfl
def Wb.Ed (w : Wb) (i j : Nat) : Prop := (i, j) ∈ w.ps ∨ (i, j) ∈ w.ts ∨ (j, i) ∈ w.ts
theorem lc0 {β : Type} (n : Nat) (y : β) (f : Int → M (Flow Unit Empty β)) (hf : ∀ x, f x = .ok (.rt y)) : lcF f (rangeI 0 (n : Int)) = .ok (List.replicate n y) := by
  rw [lcF_all (fun _ => y) _ (fun x _ => hf x)]
  congr 1
  rw [List.eq_replicate_iff]
  refine ⟨by rw [List.length_map, rangeI_len]; omega, fun b hb => ?_⟩
  obtain ⟨_, _, e⟩ := List.mem_map.mp hb
  exact e.symm
theorem cL0 (n : Nat) : cL (List.replicate n []) = List.replicate n [] := by unfold cL; rw [List.map_replicate]; rfl
/-- one more pair each turn -/
theorem loop1 {τ ρ : Type} {n : Nat} (sw : Bool) (ps : List (Nat × Nat)) (hp : inW n ps) (f : Int × Int → List (List Int) → M (Flow (List (List Int)) (List (List Int)) ρ))
    (hf : ∀ (p : Nat × Nat) L, f (cp p) L = (M.of (atI L ((if sw then p.2 else p.1 : Nat) : Int))).bind fun r => (gd (decide (r.length < sizeLine))).bind fun _ => (M.of (setI L ((if sw then p.2 else p.1 : Nat) : Int) (r ++ [((if sw then p.1 else p.2 : Nat) : Int)]))).bind fun L2 => .ok (.nx L2)) :
    ∀ (c : Nat) (Ed : Nat → Nat → Prop) (L : List (List Nat)), AdjC n c Ed L → c + ps.length ≤ 1000 → ∃ L', forF (τ := τ) f (ps.map cp) (cL L) = .ok (.nx (cL L')) ∧ AdjC n (c + ps.length) (fun i j => Ed i j ∨ (if sw then (j, i) ∈ ps else (i, j) ∈ ps)) L' := by
  induction ps with
  | nil => exact fun c Ed L h _ => ⟨L, rfl, h.ext (fun i j => by simp) (by simp)⟩
  | cons p ps ih =>
    intro c Ed L h hc
    rw [List.length_cons] at hc
    have h1 : p.1 < n := (hp p List.mem_cons_self).1
    have h2 : p.2 < n := (hp p List.mem_cons_self).2
    have ha : (if sw then p.2 else p.1 : Nat) < n := by cases sw <;> simpa
    have hb : (if sw then p.1 else p.2 : Nat) < n := by cases sw <;> simpa
    obtain ⟨L', e, a⟩ := ih (fun q hq => hp q (List.mem_cons_of_mem _ hq)) (c + 1) _ _ (adj_add h ha hb) (by omega)
    refine ⟨L', ?_, a.ext (fun i j => ?_) (by simp <;> omega)⟩
    · rw [List.map_cons]
      unfold forF
      rw [hf, app_ok h (by omega) ha]
      exact e
    · cases p
      cases sw <;> simp [Prod.ext_iff] <;> grind
theorem loop2 {τ ρ : Type} {n : Nat} (ps : List (Nat × Nat)) (hp : inW n ps) (f : Int × Int → List (List Int) → M (Flow (List (List Int)) (List (List Int)) ρ))
    (hf : ∀ (p : Nat × Nat) L, f (cp p) L = (M.of (atI L (p.1 : Int))).bind fun r => (gd (decide (r.length < sizeLine))).bind fun _ => (M.of (setI L (p.1 : Int) (r ++ [(p.2 : Int)]))).bind fun L2 =>
      (M.of (atI L2 (p.2 : Int))).bind fun r => (gd (decide (r.length < sizeLine))).bind fun _ => (M.of (setI L2 (p.2 : Int) (r ++ [(p.1 : Int)]))).bind fun L3 => .ok (.nx L3)) :
    ∀ (c : Nat) (Ed : Nat → Nat → Prop) (L : List (List Nat)), AdjC n c Ed L → c + 2 * ps.length ≤ 1000 → ∃ L', forF (τ := τ) f (ps.map cp) (cL L) = .ok (.nx (cL L')) ∧ AdjC n (c + 2 * ps.length) (fun i j => Ed i j ∨ (i, j) ∈ ps ∨ (j, i) ∈ ps) L' := by
  induction ps with
  | nil => exact fun c Ed L h _ => ⟨L, rfl, h.ext (fun i j => by simp) (by simp)⟩
  | cons p ps ih =>
    intro c Ed L h hc
    rw [List.length_cons] at hc
    have h1 : p.1 < n := (hp p List.mem_cons_self).1
    have h2 : p.2 < n := (hp p List.mem_cons_self).2
    have a1 := adj_add h h1 h2
    obtain ⟨L', e, a⟩ := ih (fun q hq => hp q (List.mem_cons_of_mem _ hq)) (c + 1 + 1) _ _ (adj_add a1 h2 h1) (by omega)
    refine ⟨L', ?_, a.ext (fun i j => ?_) (by simp <;> omega)⟩
    · rw [List.map_cons]
      unfold forF
      rw [hf, app_ok h (by omega) h1, app_ok a1 (by omega) h2]
      exact e
    · cases p
      simp [Prod.ext_iff]
      grind
section
variable (w : Wb) (hw : w.ok)
include hw
theorem moves_ok : ∃ L, Adj w.n w.Ed L ∧ p16_move_lists w.web = .ok (cL L) := by
  have h6 := hw.lp
  have h7 := hw.lt
  have h40 := hw.n40
  obtain ⟨L1, e1, a1⟩ := loop1 (τ := Empty) false w.ps hw.ps p16_move_lists_f2 (fun _ _ => rfl) 0 _ _ (adj0 w.n) (by omega)
  obtain ⟨L2, e2, a2⟩ := loop2 (τ := Empty) w.ts hw.ts p16_move_lists_f3 (fun _ _ => rfl) _ _ _ a1 (by omega)
  refine ⟨L2, (a2.ext (Ed' := w.Ed) (fun i j => by unfold Wb.Ed; simp <;> grind) (Nat.le_refl _)).toAdj, ?_⟩
  rw [cL0] at e1
  unfold p16_move_lists p16_move_lists_b Wb.web
  simp only [rgOk_of (n := (w.n : Int)) (by omega) (by omega), gd_true, M.bind_ok]
  rw [sOk_le' (by rw [rangeI_len]; omega), lc0 w.n ([] : List Int) p16_move_lists_c1 (fun _ => rfl)]
  simp only [gd_true, M.bind_ok]
  rw [e1]
  simp only [andThen_nx]
  rw [e2]
  simp only [andThen_nx, toM_rt]
theorem backs_ok : ∃ L, Adj w.n (fun i j => w.Ed j i) L ∧ p18_back_lists w.web = .ok (cL L) := by
  have h6 := hw.lp
  have h7 := hw.lt
  have h40 := hw.n40
  obtain ⟨L1, e1, a1⟩ := loop1 (τ := Empty) true w.ps hw.ps p18_back_lists_f2 (fun _ _ => rfl) 0 _ _ (adj0 w.n) (by omega)
  obtain ⟨L2, e2, a2⟩ := loop2 (τ := Empty) w.ts hw.ts p18_back_lists_f3 (fun _ _ => rfl) _ _ _ a1 (by omega)
  refine ⟨L2, (a2.ext (Ed' := fun i j => w.Ed j i) (fun i j => by unfold Wb.Ed; simp <;> grind) (Nat.le_refl _)).toAdj, ?_⟩
  rw [cL0] at e1
  unfold p18_back_lists p18_back_lists_b Wb.web
  simp only [rgOk_of (n := (w.n : Int)) (by omega) (by omega), gd_true, M.bind_ok]
  rw [sOk_le' (by rw [rangeI_len]; omega), lc0 w.n ([] : List Int) p18_back_lists_c1 (fun _ => rfl)]
  simp only [gd_true, M.bind_ok]
  rw [e1]
  simp only [andThen_nx]
  rw [e2]
  simp only [andThen_nx, toM_rt]
end
/-! ### the program's walk -/
theorem get_false {f : List Bool} {j : Nat} (h : j < f.length) (q : ¬ f[j]? = some true) : f[j]? = some false := by
  rw [List.getElem?_eq_getElem h] at *
  cases z : f[j] with
  | false => rfl
  | true => rw [z] at q; exact absurd rfl q
theorem wk_cnt (f : List Bool) (w : List Nat) (j : Nat) (h : j < f.length) : (wkStep (f, w) j).1.length = f.length ∧ (wkStep (f, w) j).2.length + 2 * cntF (wkStep (f, w) j).1 ≤ w.length + 2 * cntF f := by
  unfold wkStep
  by_cases q : f[j]? = some true
  · rw [if_pos q]; exact ⟨rfl, Nat.le_refl _⟩
  · rw [if_neg q]
    have := cntF_set f j h q
    simp
    omega
theorem turn15 (f : List Bool) (w : List Nat) (j : Nat) (h : j < f.length) (hw : w.length ≤ 1000) : p15_reach_row_f4 (j : Int) (f, ci w) = .ok (.nx ((wkStep (f, w) j).1, ci (wkStep (f, w) j).2)) := by
  unfold p15_reach_row_f4 wkStep
  dsimp only
  by_cases q : f[j]? = some true
  · rw [if_pos q, atI_nat', q]
    rfl
  · rw [if_neg q, atI_nat', get_false h q]
    simp only [M.of_some, M.bind_ok, Bool.not_false, if_true]
    rw [setI_nat h, szd (by unfold ci; rw [List.length_map]; omega)]
    simp only [M.of_some, M.bind_ok, gd_true]
    unfold ci
    rw [List.map_append]
    rfl
theorem in15 {τ : Type} (n : Nat) : ∀ (xs : List Nat) (f : List Bool) (w : List Nat), f.length = n → w.length + 2 * cntF f ≤ 1000 → (∀ j ∈ xs, j < n) →
    forF (τ := τ) p15_reach_row_f4 (ci xs) (f, ci w) = .ok (.nx ((xs.foldl wkStep (f, w)).1, ci (xs.foldl wkStep (f, w)).2))
  | [], f, w, _, _, _ => rfl
  | x :: xs, f, w, h1, h2, h3 => by
    have hx := h3 x List.mem_cons_self
    have c := wk_cnt f w x (by omega)
    have e := in15 (τ := τ) n xs (wkStep (f, w) x).1 (wkStep (f, w) x).2 (by omega) (by omega) (fun j hj => h3 j (List.mem_cons_of_mem _ hj))
    rw [List.foldl_cons]
    show forF _ ((x : Int) :: ci xs) _ = _
    unfold forF
    rw [turn15 f w x (by omega) (by omega)]
    exact e
theorem inv0 {n s : Nat} {Ed : Nat → Nat → Prop} (hs : s < n) : Inv n s Ed ((List.replicate n false).set s true) [s] := by
  have g : ∀ i : Nat, ((List.replicate n false).set s true)[i]? = some true → i = s := fun i hi => by
    rw [List.getElem?_set] at hi
    by_cases z : s = i
    · exact z.symm
    · rw [if_neg z, List.getElem?_replicate] at hi
      split at hi
      · exact absurd hi (by simp)
      · exact absurd hi (by simp)
  have q : ((List.replicate n false).set s true)[s]? = some true := by rw [List.getElem?_set]; simp [hs]
  exact ⟨by simp, fun i hi => by have : i = s := by simpa using hi
                                 subst this; exact q, q, fun i hi => by rw [g i hi]; exact .refl, fun i hi => .inl (by rw [g i hi]; simp)⟩
theorem cntF_le (f : List Bool) : cntF f ≤ f.length := List.countP_le_length
theorem reach_row_ok {n s : Nat} {Ed : Nat → Nat → Prop} {L : List (List Nat)} (hn : n ≤ 100) (hL : Adj n Ed L) (hs : s < n) : p15_reach_row (cL L) (s : Int) = .ok (rowP n (Rch Ed s)) := by
  have ll : (cL L).length = n := by unfold cL; rw [List.length_map]; exact hL.len
  have l0 : lcF p15_reach_row_c1 (cL L) = .ok (List.replicate n false) := by
    rw [lcF_all (f := p15_reach_row_c1) (fun _ => false) _ (fun _ _ => rfl)]
    congr 1
    rw [List.eq_replicate_iff]
    exact ⟨by rw [List.length_map, ll], fun b hb => by obtain ⟨_, _, e⟩ := List.mem_map.mp hb; exact e.symm⟩
  have i0 := inv0 (Ed := Ed) hs
  have c := cntF_le ((List.replicate n false).set s true)
  have c2 : ((List.replicate n false).set s true).length = n := by simp
  have hfu : k.fuel > 1000 := by decide +kernel
  obtain ⟨st, r, f', h1, h2⟩ := whileF_inv (τ := Empty) (ρ := List Bool) (t := fun s => toM (p15_reach_row_t2 s)) (f := p15_reach_row_w3 (cL L))
    (fun st => ∃ f w, st = (f, ci w) ∧ Inv n s Ed f w ∧ 2 * cntF f + w.length ≤ 1000) (fun st => ∃ f, Inv n s Ed f [] ∧ st = (f, [])) (fun st => 2 * cntF st.1 + st.2.length)
    (fun st ⟨f, w, he, i, c⟩ => by
      subst he
      rcases List.eq_nil_or_concat w with z | ⟨w, a, z⟩
      · subst z
        exact ⟨false, rfl, fun _ => ⟨f, i, rfl⟩, fun h => nomatch h⟩
      · rw [List.concat_eq_append] at z
        subst z
        have ha : f[a]? = some true := i.wl a (by simp)
        have han : a < n := by rw [← i.len]; exact (List.getElem?_eq_some_iff.mp ha).1
        have hrow : L[a]? = some (L[a]'(by rw [hL.len]; exact han)) := List.getElem?_eq_getElem _
        generalize L[a]'(by rw [hL.len]; exact han) = r at hrow
        obtain ⟨f', w', ef, i', lt⟩ := inv_step i (hL.mem a r hrow) (hL.lt a r hrow)
        have fr := in15 (τ := List Bool × List Int) n r f w i.len (by simp at c; omega) (hL.lt a r hrow)
        rw [ef] at fr
        refine ⟨true, ?_, (fun h => nomatch h), fun _ => ⟨(f', ci w'), .inl ?_, ⟨f', w', rfl, i', by omega⟩, ?_⟩⟩
        · have : (0 : Int) < ((ci (w ++ [a])).length : Int) := by simp [ci] <;> omega
          show toM (M.ok (Flow.rt (decide ((0 : Int) < ((ci (w ++ [a])).length : Int))))) = _
          rw [toM_rt, decide_eq_true this]
        · have e1 : (ci (w ++ [a])).getLast? = some (a : Int) := by simp [ci]
          have e2 : (ci (w ++ [a])).dropLast = ci w := by simp [ci]
          have e3 : (cL L)[a]? = some (ci r) := by unfold cL; rw [List.getElem?_map, hrow]; rfl
          unfold p15_reach_row_w3
          dsimp only
          rw [e1, e2]
          simp only [M.of_some, M.bind_ok]
          rw [atI_nat', e3]
          simp only [M.of_some, M.bind_ok]
          rw [fr]
          rfl
        · show 2 * cntF f' + (ci w').length < 2 * cntF f + (ci (w ++ [a])).length
          unfold ci
          rw [List.length_map, List.length_map]
          omega) k.fuel ((List.replicate n false).set s true, [(s : Int)]) ⟨_, [s], rfl, i0, by simp at c ⊢; omega⟩ (by show 2 * cntF ((List.replicate n false).set s true) + 1 < k.fuel; omega)
  rw [inv_end h1] at h2
  subst h2
  unfold p15_reach_row p15_reach_row_b
  rw [sOk_le' (by omega), l0]
  simp only [gd_true, M.bind_ok]
  rw [setI_nat (by simp; exact hs)]
  simp only [M.of_some, M.bind_ok]
  rw [r]
  simp only [andThen_nx, toM_rt]
end K05

set_option Elab.async false
set_option linter.all false
set_option maxRecDepth 100000
set_option maxHeartbeats 4000000
namespace K05
open PySem DN L2 SH
open Classical in
noncomputable def lst (n : Nat) (P : Nat → Prop) : List Nat := (List.range n).filter fun i => decide (P i)
theorem mem_lst {n : Nat} {P : Nat → Prop} {i : Nat} : i ∈ lst n P ↔ i < n ∧ P i := by
  classical
  unfold lst
  rw [List.mem_filter, List.mem_range]
  simp
theorem lst_len {n : Nat} {P : Nat → Prop} : (lst n P).length ≤ n := by
  unfold lst
  exact Nat.le_trans (List.length_filter_le _ _) (by simp)
theorem lcF_comp {α β γ : Type} (f : β → M (Flow Unit Empty γ)) (g : α → β) : ∀ l : List α, lcF f (l.map g) = lcF (fun x => f (g x)) l
  | [] => rfl
  | x :: l => by
    rw [List.map_cons]
    unfold lcF
    rw [lcF_comp f g l]
theorem rowP_at {n : Nat} {P : Nat → Prop} {i : Nat} (h : i < n) : ∃ b : Bool, atI (rowP n P) (i : Int) = some b ∧ (b = true ↔ P i) := by
  have e : (rowP n P)[i]? = some ((rowP n P)[i]'(by rw [rowP_len]; exact h)) := List.getElem?_eq_getElem _
  refine ⟨_, atI_nat'.trans e, ?_⟩
  rw [← rowP_get (P := P) h, e]
  simp
theorem rowP_congr {n : Nat} {P Q : Nat → Prop} (h : ∀ i, i < n → (P i ↔ Q i)) : rowP n P = rowP n Q :=
  rowP_ext (rowP_len n P) fun i hi => (rowP_get hi).trans (h i hi)
theorem rowP_set {n : Nat} {P : Nat → Prop} {j : Nat} (h : j < n) : (rowP n P).set j true = rowP n (fun i => P i ∨ i = j) :=
  rowP_ext (by rw [List.length_set, rowP_len]) fun i hi => by
    rw [List.getElem?_set]
    by_cases q : j = i
    · subst q
      rw [if_pos rfl, if_pos (by rw [rowP_len]; exact h)]
      simp
    · rw [if_neg q, rowP_get hi]
      constructor
      · exact .inl
      · rintro (z | z)
        · exact z
        · exact absurd z.symm q
theorem lc_lst (n : Nat) (P : Nat → Prop) (f : Int → M (Flow Unit Empty Int)) (hf : ∀ i, i < n → ∃ b : Bool, (b = true ↔ P i) ∧ f (i : Int) = if b then .ok (.rt (i : Int)) else .ok (.nx ())) : lcF f (rangeI 0 (n : Int)) = .ok (ci (lst n P)) := by
  classical
  rw [rangeI_nat, lcF_comp]
  rw [lcF_eq (fun i => decide (P i)) (fun i : Nat => (i : Int)) _ (fun i hi => by
    obtain ⟨b, h1, h2⟩ := hf i (by simpa using hi)
    rw [h2]
    cases b with
    | true => rw [if_pos rfl, if_pos (decide_eq_true (h1.mp rfl))]
    | false =>
      have : ¬ P i := fun z => nomatch h1.mpr z
      rw [if_neg (by simp), if_neg (by simpa using this)])]
  rfl
theorem reached_ok (w : Wb) (hw : w.ok) {s : Nat} (hs : s < w.n) : p17_reached w.web (s : Int) = .ok (ci (lst w.n (Rch w.Ed s))) := by
  have h40 := hw.n40
  obtain ⟨L, a, e⟩ := moves_ok w hw
  have r := reach_row_ok (by omega) a hs
  have wh := whole_ok (s : Int) 0 ((w.n : Int) - 1) (by omega) (by omega)
  unfold p17_reached p17_reached_b
  show toM ((p4_whole (s : Int) 0 ((w.n : Int) - 1)).bind _) = _
  rw [wh]
  simp only [M.bind_ok]
  rw [e]
  simp only [M.bind_ok]
  rw [r]
  simp only [M.bind_ok]
  show toM ((gd (rgOk (w.n : Int))).bind fun _ => (gd (sOk (rangeI 0 (w.n : Int)).length)).bind fun _ => (lcF _ (rangeI 0 (w.n : Int))).bind _) = _
  rw [rgOk_of (by omega) (by omega), sOk_le' (by rw [rangeI_len]; omega), lc_lst w.n (Rch w.Ed s) _ (fun i hi => by
    obtain ⟨b, h1, h2⟩ := rowP_at (P := Rch w.Ed s) hi
    refine ⟨b, h2, ?_⟩
    unfold p17_reached_c1
    rw [h1]
    rfl)]
  simp only [gd_true, M.bind_ok, toM_rt]
/-! ### the law's own closure -/
def aP (S : Nat → Prop) (p : Nat × Nat) : Nat → Prop := fun i => S i ∨ (S p.1 ∧ i = p.2)
def aT (S : Nat → Prop) (p : Nat × Nat) : Nat → Prop := fun i => S i ∨ ((S p.1 ∨ S p.2) ∧ (i = p.1 ∨ i = p.2))
def rnd (w : Wb) (S : Nat → Prop) : Nat → Prop := w.ts.foldl aT (w.ps.foldl aP S)
theorem f3_ok {n : Nat} (S : Nat → Prop) (p : Nat × Nat) (h1 : p.1 < n) (h2 : p.2 < n) : p10_law_reach_f3 (cp p) (rowP n S) = .ok (.nx (rowP n (aP S p))) := by
  obtain ⟨b, e, hb⟩ := rowP_at (P := S) h1
  unfold p10_law_reach_f3 cp
  dsimp only
  rw [e]
  simp only [M.of_some, M.bind_ok]
  cases b with
  | true =>
    rw [if_pos rfl, setI_nat (by rw [rowP_len]; exact h2), rowP_set h2]
    simp only [M.of_some, M.bind_ok]
    congr 2
    exact rowP_congr fun i _ => by unfold aP; simp [hb.mp rfl]
  | false =>
    have : ¬ S p.1 := fun z => nomatch hb.mpr z
    rw [if_neg (by simp)]
    congr 2
    exact rowP_congr fun i _ => by unfold aP; simp [this]
theorem f4_ok {n : Nat} (S : Nat → Prop) (p : Nat × Nat) (h1 : p.1 < n) (h2 : p.2 < n) : p10_law_reach_f4 (cp p) (rowP n S) = .ok (.nx (rowP n (aT S p))) := by
  obtain ⟨b, e, hb⟩ := rowP_at (P := S) h1
  obtain ⟨c, e2, hc⟩ := rowP_at (P := S) h2
  have set2 : (S p.1 ∨ S p.2) → ((M.of (setI (rowP n S) (p.1 : Int) true)).bind fun s => (M.of (setI s (p.2 : Int) true)).bind fun s => (.ok (.nx s) : M (Flow (List Bool) (List Bool) (List Bool)))) = .ok (.nx (rowP n (aT S p))) := fun h => by
    rw [setI_nat (by rw [rowP_len]; exact h1), rowP_set h1]
    simp only [M.of_some, M.bind_ok]
    rw [setI_nat (by rw [rowP_len]; exact h2), rowP_set h2]
    simp only [M.of_some, M.bind_ok]
    congr 2
    exact rowP_congr fun i _ => by unfold aT; simp [h, or_assoc]
  unfold p10_law_reach_f4 cp
  dsimp only
  rw [e]
  simp only [M.of_some, M.bind_ok]
  cases b with
  | true =>
    simp only [if_true, toM_rt, M.bind_ok]
    exact set2 (.inl (hb.mp rfl))
  | false =>
    have n1 : ¬ S p.1 := fun z => nomatch hb.mpr z
    simp only [Bool.false_eq_true, if_false]
    rw [e2]
    simp only [M.of_some, M.bind_ok]
    cases c with
    | true =>
      simp only [if_true, toM_rt, M.bind_ok]
      exact set2 (.inr (hc.mp rfl))
    | false =>
      have n2 : ¬ S p.2 := fun z => nomatch hc.mpr z
      simp only [Bool.false_eq_true, if_false, toM_rt, M.bind_ok]
      congr 2
      exact rowP_congr fun i _ => by unfold aT; simp [n1, n2]
theorem fold_rows {τ ρ : Type} {n : Nat} (a : (Nat → Prop) → Nat × Nat → Nat → Prop) (f : Int × Int → List Bool → M (Flow (List Bool) (List Bool) ρ)) (hf : ∀ S p, p.1 < n → p.2 < n → f (cp p) (rowP n S) = .ok (.nx (rowP n (a S p)))) :
    ∀ (ps : List (Nat × Nat)) (S : Nat → Prop), inW n ps → forF (τ := τ) f (ps.map cp) (rowP n S) = .ok (.nx (rowP n (ps.foldl a S)))
  | [], S, _ => rfl
  | p :: ps, S, h => by
    have hp := h p List.mem_cons_self
    rw [List.map_cons]
    unfold forF
    rw [hf S p hp.1 hp.2]
    exact fold_rows a f hf ps _ fun q hq => h q (List.mem_cons_of_mem _ hq)
theorem f2_ok (w : Wb) (hw : w.ok) (k : Int) (S : Nat → Prop) : p10_law_reach_f2 w.tup k (rowP w.n S) = .ok (.nx (rowP w.n (rnd w S))) := by
  unfold p10_law_reach_f2 Wb.tup
  dsimp only
  rw [fold_rows aP p10_law_reach_f3 (fun S p h1 h2 => f3_ok S p h1 h2) w.ps S hw.ps]
  simp only [andThen_nx]
  rw [fold_rows aT p10_law_reach_f4 (fun S p h1 h2 => f4_ok S p h1 h2) w.ts _ hw.ts]
  rfl
/-- closed under moves -/
def Clo (w : Wb) (S : Nat → Prop) : Prop := ∀ i j, S i → w.Ed i j → S j
theorem foldP_sub (w : Wb) (T : Nat → Prop) (hT : Clo w T) : ∀ (ps : List (Nat × Nat)) (S : Nat → Prop), (∀ p ∈ ps, p ∈ w.ps) → (∀ i, S i → T i) → ∀ i, ps.foldl aP S i → T i
  | [], S, _, h, i, hi => h i hi
  | p :: ps, S, hp, h, i, hi => foldP_sub w T hT ps (aP S p) (fun q hq => hp q (List.mem_cons_of_mem _ hq)) (fun j hj => by
      rcases hj with z | ⟨z1, z2⟩
      · exact h j z
      · subst z2
        exact hT p.1 p.2 (h _ z1) (.inl (hp p List.mem_cons_self))) i hi
theorem foldT_sub (w : Wb) (T : Nat → Prop) (hT : Clo w T) : ∀ (ps : List (Nat × Nat)) (S : Nat → Prop), (∀ p ∈ ps, p ∈ w.ts) → (∀ i, S i → T i) → ∀ i, ps.foldl aT S i → T i
  | [], S, _, h, i, hi => h i hi
  | p :: ps, S, hp, h, i, hi => foldT_sub w T hT ps (aT S p) (fun q hq => hp q (List.mem_cons_of_mem _ hq)) (fun j hj => by
      have hm : (p.1, p.2) ∈ w.ts := hp p List.mem_cons_self
      rcases hj with z | ⟨z1, z2⟩
      · exact h j z
      · have a : T p.1 ∧ T p.2 := by
          rcases z1 with z | z
          · exact ⟨h _ z, hT p.1 p.2 (h _ z) (.inr (.inl hm))⟩
          · exact ⟨hT p.2 p.1 (h _ z) (.inr (.inr hm)), h _ z⟩
        rcases z2 with z | z
        · subst z; exact a.1
        · subst z; exact a.2) i hi
theorem rnd_sub (w : Wb) (T : Nat → Prop) (hT : Clo w T) (S : Nat → Prop) (h : ∀ i, S i → T i) : ∀ i, rnd w S i → T i :=
  foldT_sub w T hT w.ts _ (fun _ h => h) (foldP_sub w T hT w.ps S (fun _ h => h) h)
theorem fold_mono {a : (Nat → Prop) → Nat × Nat → Nat → Prop} (ha : ∀ S p i, S i → a S p i) : ∀ (ps : List (Nat × Nat)) (S : Nat → Prop) (i : Nat), S i → ps.foldl a S i
  | [], S, i, h => h
  | p :: ps, S, i, h => fold_mono ha ps (a S p) i (ha S p i h)
theorem rnd_mono (w : Wb) (S : Nat → Prop) (i : Nat) (h : S i) : rnd w S i :=
  fold_mono (a := aT) (fun _ _ _ h => .inl h) w.ts _ i (fold_mono (a := aP) (fun _ _ _ h => .inl h) w.ps S i h)
theorem foldP_new : ∀ (ps : List (Nat × Nat)) (S : Nat → Prop) (i j : Nat), S i → (i, j) ∈ ps → ps.foldl aP S j
  | p :: ps, S, i, j, h, hm => by
    rcases List.mem_cons.mp hm with z | z
    · subst z
      exact fold_mono (a := aP) (fun _ _ _ h => .inl h) ps (aP S (i, j)) j (.inr ⟨h, rfl⟩)
    · exact foldP_new ps (aP S p) i j (.inl h) z
theorem foldT_new : ∀ (ps : List (Nat × Nat)) (S : Nat → Prop) (i j : Nat), S i → ((i, j) ∈ ps ∨ (j, i) ∈ ps) → ps.foldl aT S j
  | [], S, i, j, h, hm => by simp at hm
  | p :: ps, S, i, j, h, hm => by
    by_cases q : p = (i, j)
    · subst q
      exact fold_mono (a := aT) (fun _ _ _ h => .inl h) ps (aT S (i, j)) j (.inr ⟨.inl h, .inr rfl⟩)
    · by_cases q2 : p = (j, i)
      · subst q2
        exact fold_mono (a := aT) (fun _ _ _ h => .inl h) ps (aT S (j, i)) j (.inr ⟨.inr h, .inl rfl⟩)
      · refine foldT_new ps (aT S p) i j (.inl h) ?_
        rcases hm with z | z
        · rcases List.mem_cons.mp z with z | z
          · exact absurd z.symm q
          · exact .inl z
        · rcases List.mem_cons.mp z with z | z
          · exact absurd z.symm q2
          · exact .inr z
theorem rnd_new (w : Wb) (S : Nat → Prop) {i j : Nat} (h : S i) (e : w.Ed i j) : rnd w S j := by
  rcases e with e | e | e
  · exact fold_mono (a := aT) (fun _ _ _ h => .inl h) w.ts _ j (foldP_new w.ps S i j h e)
  · exact foldT_new w.ts _ i j (fold_mono (a := aP) (fun _ _ _ h => .inl h) w.ps S i h) (.inl e)
  · exact foldT_new w.ts _ i j (fold_mono (a := aP) (fun _ _ _ h => .inl h) w.ps S i h) (.inr e)
theorem Ed_lt (w : Wb) (hw : w.ok) {i j : Nat} (e : w.Ed i j) : i < w.n ∧ j < w.n := by
  rcases e with e | e | e
  · exact hw.ps _ e
  · exact hw.ts _ e
  · exact ⟨(hw.ts _ e).2, (hw.ts _ e).1⟩
def rnds (w : Wb) (s : Nat) : Nat → Nat → Prop
  | 0 => fun i => i = s
  | k + 1 => rnd w (rnds w s k)
theorem lst_grow {n : Nat} {P Q : Nat → Prop} (h : ∀ i, P i → Q i) {j : Nat} (hj : j < n) (h1 : Q j) (h2 : ¬ P j) : (lst n P).length < (lst n Q).length := by
  classical
  unfold lst
  rw [← List.countP_eq_length_filter, ← List.countP_eq_length_filter]
  have key : ∀ l : List Nat, j ∈ l → (l.countP fun i => decide (P i)) < l.countP fun i => decide (Q i) := by
    intro l
    have le : ∀ l : List Nat, (l.countP fun i => decide (P i)) ≤ l.countP fun i => decide (Q i) := fun l => List.countP_mono_left fun i _ hi => by simpa using h i (by simpa using hi)
    induction l with
    | nil => intro hm; exact nomatch hm
    | cons a l ih =>
      intro hm
      rw [List.countP_cons, List.countP_cons]
      rcases List.mem_cons.mp hm with z | z
      · subst z
        have := le l
        simp [h1, h2]
        omega
      · have := ih z
        by_cases p : P a
        · simp [p, h a p]; exact this
        · by_cases q : Q a
          · simp [p, q]; omega
          · simp [p, q]; exact this
  have := key (List.range n) (List.mem_range.mpr hj)
  exact this
theorem rnds_clo (w : Wb) (hw : w.ok) {s : Nat} (hs : s < w.n) : ∀ k, Clo w (rnds w s k) ∨ k + 1 ≤ (lst w.n (rnds w s k)).length
  | 0 => .inr (by
      have : s ∈ lst w.n (rnds w s 0) := mem_lst.mpr ⟨hs, rfl⟩
      have := List.length_pos_of_mem this
      omega)
  | k + 1 => by
    rcases rnds_clo w hw hs k with c | c
    · refine .inl fun i j hi e => ?_
      have hi : rnds w s k i := rnd_sub w _ c _ (fun _ h => h) i hi
      exact rnd_mono w _ j (c i j hi e)
    · by_cases q : ∃ j, j < w.n ∧ rnds w s (k + 1) j ∧ ¬ rnds w s k j
      · obtain ⟨j, h1, h2, h3⟩ := q
        have := lst_grow (P := rnds w s k) (Q := rnds w s (k + 1)) (fun i hi => rnd_mono w _ i hi) h1 h2 h3
        exact .inr (by omega)
      · have c' : Clo w (rnds w s k) := fun i j hi e => by
          refine Classical.byContradiction fun hn => q ⟨j, (Ed_lt w hw e).2, rnd_new w _ hi e, hn⟩
        refine .inl fun i j hi e => ?_
        have hi : rnds w s k i := rnd_sub w _ c' _ (fun _ h => h) i hi
        exact rnd_mono w _ j (c' i j hi e)
theorem rnds_rch (w : Wb) (hw : w.ok) {s : Nat} (hs : s < w.n) (i : Nat) : rnds w s w.n i ↔ Rch w.Ed s i := by
  constructor
  · have : ∀ k i, rnds w s k i → Rch w.Ed s i := fun k => by
      induction k with
      | zero => intro i hi; have hi : i = s := hi; subst hi; exact .refl
      | succ k ih => exact rnd_sub w _ (fun i j hi e => .step hi e) _ ih
    exact this _ i
  · have c : Clo w (rnds w s w.n) := by
      rcases rnds_clo w hw hs w.n with c | c
      · exact c
      · have := lst_len (n := w.n) (P := rnds w s w.n)
        omega
    intro h
    induction h with
    | refl =>
      have : ∀ k, rnds w s k s := fun k => by
        induction k with
        | zero => rfl
        | succ k ih => exact rnd_mono w _ s ih
      exact this _
    | step _ e ih => exact c _ _ ih e
theorem law_reach_ok (w : Wb) (hw : w.ok) {s : Nat} (hs : s < w.n) : p10_law_reach w.tup (s : Int) = .ok (rowP w.n (Rch w.Ed s)) := by
  have h40 := hw.n40
  have l0 : lcF (p10_law_reach_c1 (s : Int)) (rangeI 0 (w.n : Int)) = .ok (rowP w.n (rnds w s 0)) := by
    rw [lcF_all (f := p10_law_reach_c1 (s : Int)) (fun x => decide (x = (s : Int))) _ (fun _ _ => rfl)]
    congr 1
    refine rowP_ext (by rw [List.length_map, rangeI_len]; omega) fun i hi => ?_
    rw [rangeI_nat, List.map_map, List.getElem?_map, List.getElem?_range hi]
    show some (decide ((i : Int) = (s : Int))) = some true ↔ i = s
    simp
    omega
  obtain ⟨seen, h1, h2⟩ := forF_inv (τ := Empty) (f := p10_law_reach_f2 w.tup) (rangeI 0 (w.n : Int)) (fun i s' => s' = rowP w.n (rnds w s i)) (rowP w.n (rnds w s 0)) rfl (fun i x s' _ hs' => by
    subst hs'
    exact ⟨_, .inl (f2_ok w hw x _), rfl⟩)
  have hl : (rangeI 0 (w.n : Int)).length = w.n := by rw [rangeI_len]; omega
  rw [hl] at h2
  unfold p10_law_reach p10_law_reach_b
  show toM ((gd (rgOk (w.n : Int))).bind fun _ => (gd (sOk (rangeI 0 (w.n : Int)).length)).bind fun _ => (lcF (p10_law_reach_c1 (s : Int)) (rangeI 0 (w.n : Int))).bind fun l5 => (gd (rgOk (w.n : Int))).bind fun _ => (forF (p10_law_reach_f2 w.tup) (rangeI 0 (w.n : Int)) l5).andThen _) = _
  rw [rgOk_of (by omega) (by omega), sOk_le' (by omega), l0]
  simp only [gd_true, M.bind_ok]
  rw [h1, h2]
  simp only [andThen_nx, toM_rt]
  rw [rowP_congr fun i _ => rnds_rch w hw hs i]
theorem reaches_ok (w : Wb) (hw : w.ok) : p11_law_reaches w.tup = .ok ((List.range w.n).map fun s => rowP w.n (Rch w.Ed s)) := by
  have h40 := hw.n40
  unfold p11_law_reaches p11_law_reaches_b
  show toM ((gd (rgOk (w.n : Int))).bind fun _ => (gd (sOk (rangeI 0 (w.n : Int)).length)).bind fun _ => (lcF (p11_law_reaches_c1 w.tup) (rangeI 0 (w.n : Int))).bind _) = _
  rw [rgOk_of (by omega) (by omega), sOk_le' (by rw [rangeI_len]; omega), rangeI_nat, lcF_comp, lcF_all (fun s => rowP w.n (Rch w.Ed s)) _ (fun s hs => by
    unfold p11_law_reaches_c1
    rw [law_reach_ok w hw (by simpa using hs)]
    rfl)]
  simp only [gd_true, M.bind_ok, toM_rt]
/-! ### lists of numbers said equal -/
theorem ints_ok (l : List Int) (hl : l.length ≤ 1000) : p14_law_ints l l = .ok true := by
  unfold p14_law_ints p14_law_ints_b
  rw [forF_unit _ (fun x hx => by
    rw [mem_rangeI] at hx
    have e : x = ((x.toNat : Nat) : Int) := by omega
    have z := atI_nat' (l := l) (j := x.toNat)
    rw [← e, List.getElem?_eq_getElem (by omega)] at z
    unfold p14_law_ints_f1
    rw [z]
    simp only [M.of_some, M.bind_ok]
    simp [p13_law_same, p13_law_same_b, p12_law_int, p12_law_int_b])]
  simp [rgOk_of (n := (l.length : Int)) (by omega) (by omega)]
theorem ints_ok1 (l : List Int) (hl : l.length ≤ 1000) : p14_law_ints_1 l (l.map some) = .ok true := by
  unfold p14_law_ints_1 p14_law_ints_1_b
  rw [forF_unit _ (fun x hx => by
    rw [mem_rangeI, List.length_map] at hx
    have e : x = ((x.toNat : Nat) : Int) := by omega
    have z := atI_nat' (l := l) (j := x.toNat)
    rw [← e, List.getElem?_eq_getElem (by omega)] at z
    unfold p14_law_ints_1_f1
    rw [z]
    have z2 : atI (l.map some) x = some (some (l[x.toNat]'(by omega))) := by
      have q := atI_nat' (l := l.map some) (j := x.toNat)
      rw [← e, List.getElem?_map, List.getElem?_eq_getElem (by omega)] at q
      exact q
    rw [z2]
    simp only [M.of_some, M.bind_ok]
    simp [p13_law_same_1, p13_law_same_1_b, p12_law_int, p12_law_int_b])]
  simp [rgOk_of (n := (l.length : Int)) (by omega) (by omega)]
end K05

set_option Elab.async false
set_option linter.all false
set_option maxRecDepth 100000
set_option maxHeartbeats 4000000
namespace K05
open PySem DN L2 SH
/-! ### knots -/
def Mut (w : Wb) (i j : Nat) : Prop := Rch w.Ed i j ∧ Rch w.Ed j i
noncomputable def knot (w : Wb) (p : Nat) : List Nat := lst w.n (Mut w p)
noncomputable def kst (w : Wb) (due : List (List Nat)) (p : Nat) : List (List Nat) := if p ∈ due.flatten then due else due ++ [knot w p]
noncomputable def KN (w : Wb) (i : Nat) : List (List Nat) := (List.range i).foldl (kst w) []
theorem KN_succ (w : Wb) (i : Nat) : KN w (i + 1) = kst w (KN w i) i := by
  unfold KN
  rw [List.range_succ, List.foldl_append]
  rfl
theorem KN_len (w : Wb) : ∀ i, (KN w i).length ≤ i
  | 0 => Nat.le_refl _
  | i + 1 => by
    rw [KN_succ]
    have := KN_len w i
    unfold kst
    split
    · omega
    · simp; omega
theorem knot_len (w : Wb) (p : Nat) : (knot w p).length ≤ w.n := lst_len
theorem KN_mem (w : Wb) : ∀ i, ∀ l ∈ KN w i, ∃ p, l = knot w p
  | 0, l, h => nomatch h
  | i + 1, l, h => by
    rw [KN_succ] at h
    unfold kst at h
    split at h
    · exact KN_mem w i l h
    · rcases List.mem_append.mp h with z | z
      · exact KN_mem w i l z
      · exact ⟨i, by simpa using z⟩
theorem KN_all (w : Wb) : ∀ i, i ≤ w.n → ∀ x, x < i → x ∈ (KN w i).flatten
  | 0, _, x, h => nomatch h
  | i + 1, hi, x, h => by
    rw [KN_succ]
    unfold kst
    by_cases q : i ∈ (KN w i).flatten
    · rw [if_pos q]
      by_cases e : x = i
      · subst e; exact q
      · exact KN_all w i (by omega) x (by omega)
    · rw [if_neg q, List.flatten_append]
      by_cases e : x = i
      · subst e
        refine List.mem_append.mpr (.inr ?_)
        have : x ∈ knot w x := mem_lst.mpr ⟨by omega, .refl, .refl⟩
        simpa using this
      · exact List.mem_append.mpr (.inl (KN_all w i (by omega) x (by omega)))
/-- setting items one after the other -/
theorem setfold {α τ ρ : Type} (n : Nat) (c : α) (f : Int → List α → M (Flow (List α) (List α) ρ)) (hf : ∀ x s, f x s = (M.of (setI s x c)).bind fun s' => .ok (.nx s')) : ∀ (l : List Nat) (g : Nat → α), (∀ q ∈ l, q < n) →
    forF (τ := τ) f (ci l) ((List.range n).map g) = .ok (.nx ((List.range n).map fun x => if x ∈ l then c else g x))
  | [], g, _ => by
    show M.ok _ = _
    simp
  | q :: l, g, h => by
    have hq := h q List.mem_cons_self
    show forF _ ((q : Int) :: ci l) _ = _
    unfold forF
    have e : ((List.range n).map g).set q c = (List.range n).map fun x => if x = q then c else g x := by
      apply List.ext_getElem?
      intro i
      rw [List.getElem?_set]
      by_cases z : q = i
      · subst z
        rw [if_pos rfl, if_pos (by simpa using hq), List.getElem?_map, List.getElem?_range hq]
        simp
      · rw [if_neg z, List.getElem?_map, List.getElem?_map]
        rcases Nat.lt_or_ge i n with y | y
        · rw [List.getElem?_range y]
          have : ¬ i = q := fun e => z e.symm
          simp [this]
        · rw [List.getElem?_eq_none (by simpa using y)]
          rfl
    rw [hf, setI_nat (by simpa using hq), e]
    simp only [M.of_some, M.bind_ok]
    rw [setfold n c f hf l _ fun x hx => h x (List.mem_cons_of_mem _ hx)]
    congr 2
    apply List.map_congr_left
    intro x _
    by_cases h1 : x ∈ l
    · simp [h1]
    · by_cases h2 : x = q
      · simp [h2]
      · simp [h1, h2]
theorem atRange {α : Type} {n : Nat} {g : Nat → α} {i : Nat} (h : i < n) : atI ((List.range n).map g) (i : Int) = some (g i) := by
  rw [atI_nat', List.getElem?_map, List.getElem?_range h]
  rfl
/-- a comprehension over two rows -/
theorem knots_ok (w : Wb) (hw : w.ok) : p19_knots w.web = .ok (cL (KN w w.n)) := by
  classical
  have h40 := hw.n40
  obtain ⟨L, a, e⟩ := moves_ok w hw
  obtain ⟨L', a', e'⟩ := backs_ok w hw
  have rev : ∀ p x, Rch (fun i j => w.Ed j i) p x ↔ Rch w.Ed x p := fun p x => ⟨fun h => Rch.rev (fun _ _ h => h) h, fun h => Rch.rev (fun _ _ h => h) h⟩
  have hl : (rangeI 0 (w.n : Int)).length = w.n := by rw [rangeI_len]; omega
  obtain ⟨⟨g', t'⟩, h1, h2⟩ := forF_inv (τ := Empty) (f := p19_knots_f2 (cL L) (cL L') w.web) (rangeI 0 (w.n : Int)) (fun i s => s = ((List.range w.n).map (fun x => decide (x ∈ (KN w i).flatten)), cL (KN w i))) (List.replicate w.n false, []) (by
      refine Prod.ext ?_ rfl
      show List.replicate w.n false = _
      rw [eq_comm, List.eq_replicate_iff]
      exact ⟨by simp, fun b hb => by obtain ⟨x, _, e⟩ := List.mem_map.mp hb; rw [← e]; simp [KN]⟩) (fun i x s hx hs => by
    subst hs
    have hi : i < w.n := by have := (List.getElem?_eq_some_iff.mp hx).1; omega
    have hxe : x = (i : Int) := by
      rw [rangeI_nat, List.getElem?_map, List.getElem?_range hi] at hx
      simpa using hx.symm
    subst hxe
    unfold p19_knots_f2
    dsimp only
    rw [atRange hi]
    simp only [M.of_some, M.bind_ok]
    rw [KN_succ]
    by_cases q : i ∈ (KN w i).flatten
    · refine ⟨_, .inl ?_, rfl⟩
      rw [decide_eq_true q]
      unfold kst
      rw [if_pos q]
      rfl
    · refine ⟨_, .inl ?_, rfl⟩
      rw [decide_eq_false q]
      simp only [Bool.not_false, if_true]
      rw [reach_row_ok (by omega) a hi]
      simp only [M.bind_ok]
      rw [reach_row_ok (by omega) a' hi]
      simp only [M.bind_ok]
      rw [show w.web.places = (w.n : Int) from rfl, rgOk_of (by omega) (by omega), sOk_le' (by omega), lc_lst w.n (Mut w i) _ (fun j hj => by
        obtain ⟨b, q1, q2⟩ := rowP_at (P := Rch w.Ed i) hj
        obtain ⟨c, q3, q4⟩ := rowP_at (P := Rch (fun i j => w.Ed j i) i) hj
        refine ⟨b && c, ?_, ?_⟩
        · rw [Bool.and_eq_true, q2, q4, rev]; rfl
        · unfold p19_knots_c3
          rw [q1]
          simp only [M.of_some, M.bind_ok]
          cases b with
          | false => rfl
          | true =>
            rw [q3]
            simp only [M.of_some, M.bind_ok, if_true, Bool.true_and])]
      simp only [gd_true, M.bind_ok]
      rw [setfold w.n true p19_knots_f4 (fun _ _ => rfl) (lst w.n (Mut w i)) _ (fun q hq => (mem_lst.mp hq).1)]
      have hz := KN_len w i
      rw [andThen_nx, szd (by unfold cL; rw [List.length_map]; omega)]
      simp only [gd_true, M.bind_ok]
      unfold kst
      rw [if_neg q]
      refine congrArg (fun z => M.ok (Flow.nx z)) (Prod.ext ?_ ?_)
      · apply List.map_congr_left
        intro x _
        by_cases h1 : x ∈ lst w.n (Mut w i)
        · simp [h1, knot]
        · simp [h1, knot]
      · unfold cL knot
        rw [List.map_append]
        rfl)
  rw [hl] at h2
  have h2' : t' = cL (KN w w.n) := congrArg Prod.snd h2
  unfold p19_knots p19_knots_b
  rw [e]
  simp only [M.bind_ok]
  rw [e']
  simp only [M.bind_ok]
  have hp : w.web.places = (w.n : Int) := rfl
  rw [hp]
  rw [rgOk_of (by omega) (by omega), sOk_le' (by omega), lc0 w.n false p19_knots_c1 (fun _ => rfl)]
  simp only [gd_true, M.bind_ok]
  rw [h1, h2']
  simp only [andThen_nx, toM_rt]
/-! ### the knot's number -/
def lixR : List (List Nat) → Nat → Option Nat
  | [], _ => none
  | l :: r, x => if x ∈ l then some r.length else lixR r x
def lix (due : List (List Nat)) (x : Nat) : Option Nat := lixR due.reverse x
theorem lix_nil (x : Nat) : lix [] x = none := rfl
theorem lix_snoc (due : List (List Nat)) (l : List Nat) (x : Nat) : lix (due ++ [l]) x = if x ∈ l then some due.length else lix due x := by
  unfold lix
  rw [List.reverse_append]
  rw [show lixR ([l].reverse ++ due.reverse) x = if x ∈ l then some due.reverse.length else lixR due.reverse x from rfl, List.length_reverse]
theorem lixR_none : ∀ (due : List (List Nat)) (x : Nat), lixR due x = none ↔ x ∉ due.flatten
  | [], x => by simp [lixR]
  | l :: r, x => by
    unfold lixR
    by_cases h : x ∈ l
    · simp [h]
    · rw [if_neg h, lixR_none r x]
      simp [h]
theorem lix_none (due : List (List Nat)) (x : Nat) : lix due x = none ↔ x ∉ due.flatten := by
  unfold lix
  rw [lixR_none]
  simp
theorem enI_get {α : Type} : ∀ (l : List α) (k i : Nat), (enI k l)[i]? = (l[i]?).map fun x => (((k + i : Nat) : Int), x)
  | [], k, i => by simp [enI]
  | a :: l, k, 0 => by simp [enI]
  | a :: l, k, i + 1 => by
    show (enI (k + 1) l)[i]? = _
    rw [enI_get l (k + 1) i]
    simp only [List.getElem?_cons_succ]
    congr 1
    funext x
    congr 2
    omega
theorem enI_len {α : Type} : ∀ (l : List α) (k : Nat), (enI k l).length = l.length
  | [], _ => rfl
  | a :: l, k => congrArg (· + 1) (enI_len l (k + 1))
theorem knot_of_ok (w : Wb) (hw : w.ok) : p20_knot_of w.web = .ok ((List.range w.n).map fun x => (((lix (KN w w.n) x).getD 0 : Nat) : Int)) := by
  have h40 := hw.n40
  have hl : (rangeI 0 (w.n : Int)).length = w.n := by rw [rangeI_len]; omega
  obtain ⟨s', h1, h2⟩ := forF_inv (τ := Empty) (f := p20_knot_of_f2) (enI 0 (cL (KN w w.n))) (fun i s => s = (List.range w.n).map fun x => (((lix ((KN w w.n).take i) x).getD 0 : Nat) : Int)) (List.replicate w.n 0) (by
      rw [eq_comm, List.eq_replicate_iff]
      exact ⟨by simp, fun b hb => by obtain ⟨x, _, e⟩ := List.mem_map.mp hb; rw [← e]; simp [lix_nil]⟩) (fun i x s hx hs => by
    subst hs
    have hi : i < (KN w w.n).length := by
      have := (List.getElem?_eq_some_iff.mp hx).1
      rw [enI_len] at this
      simpa [cL] using this
    have hk : (KN w w.n)[i]? = some ((KN w w.n)[i]'hi) := List.getElem?_eq_getElem _
    have hmem := List.getElem_mem hi
    generalize (KN w w.n)[i]'hi = l at hk hmem
    rw [enI_get] at hx
    unfold cL at hx
    rw [List.getElem?_map, hk] at hx
    have hx : x = ((i : Int), ci l) := by simpa using hx.symm
    subst hx
    refine ⟨_, .inl ?_, rfl⟩
    unfold p20_knot_of_f2
    dsimp only
    obtain ⟨p, rfl⟩ := KN_mem w _ l hmem
    rw [setfold w.n (i : Int) (p20_knot_of_f3 (i : Int)) (fun _ _ => rfl) (knot w p) _ (fun q hq => (mem_lst.mp hq).1), andThen_nx]
    have ht : (KN w w.n).take (i + 1) = (KN w w.n).take i ++ [knot w p] := by
      rw [List.take_add_one, hk]
      rfl
    rw [ht]
    congr 2
    apply List.map_congr_left
    intro y _
    rw [lix_snoc, List.length_take, Nat.min_eq_left (Nat.le_of_lt hi)]
    split <;> rfl)
  rw [enI_len] at h2
  have hlen : (cL (KN w w.n)).length = (KN w w.n).length := by simp [cL]
  rw [hlen, List.take_length] at h2
  unfold p20_knot_of p20_knot_of_b
  have hp : w.web.places = (w.n : Int) := rfl
  rw [hp]
  rw [rgOk_of (by omega) (by omega), sOk_le' (by omega), lc0 w.n (0 : Int) p20_knot_of_c1 (fun _ => rfl)]
  simp only [gd_true, M.bind_ok]
  rw [knots_ok w hw]
  simp only [M.bind_ok]
  rw [h1, h2]
  simp only [andThen_nx, toM_rt]
end K05

set_option Elab.async false
set_option linter.all false
set_option maxRecDepth 100000
set_option maxHeartbeats 4000000
namespace K05
open PySem DN L2 SH
/-! ### refusals -/
theorem sb0 : subOf k.G 1 0 = some true := by decide +kernel
theorem sb1 : subOf k.G 1 1 = some true := by decide +kernel
theorem sb2 : subOf k.G 1 2 = some false := by decide +kernel
theorem sb3 : subOf k.G 1 3 = some false := by decide +kernel
theorem refused_out (w : Wb) (x : Int) (h : x < 0 ∨ (w.n : Int) - 1 < x) : p21_law_refused w.web x = .ok [true, true, false, false] := by
  have e : p17_reached w.web x = .exc 1 := by
    unfold p17_reached p17_reached_b
    rw [show w.web.places = (w.n : Int) from rfl, whole_out x 0 _ h]
    rfl
  unfold p21_law_refused p21_law_refused_b
  rw [e]
  simp only [M.bind_exc, tryM, sb0, sb1, sb2, sb3, M.of_some, M.bind_ok, andThen_nx, toM_rt]
theorem refused_1 (w : Wb) : p21_law_refused_1 w.web true = .ok [true, true, false, false] := by
  simp only [p21_law_refused_1, p21_law_refused_1_b, p17_reached_1, p17_reached_1_b, p4_whole_1, p4_whole_1_b, p3_is_whole_1, p3_is_whole_1_b, toM_rt, toM_exc, M.bind_ok, M.bind_exc, tryM, sb0, sb1, sb2, sb3, M.of_some, andThen_nx]
theorem refused_2 (w : Wb) : p21_law_refused_2 w.web = .ok [true, true, false, false] := by
  simp only [p21_law_refused_2, p21_law_refused_2_b, p17_reached_2, p17_reached_2_b, p4_whole_2, p4_whole_2_b, p3_is_whole_2, p3_is_whole_2_b, toM_rt, toM_exc, M.bind_ok, M.bind_exc, tryM, sb0, sb1, sb2, sb3, M.of_some, andThen_nx]
theorem refused_3 (w : Wb) : p21_law_refused_3 w.web = .ok [true, true, false, false] := by
  simp only [p21_law_refused_3, p21_law_refused_3_b, p17_reached_3, p17_reached_3_b, p4_whole_3, p4_whole_3_b, p3_is_whole_3, p3_is_whole_3_b, toM_rt, toM_exc, M.bind_ok, M.bind_exc, tryM, sb0, sb1, sb2, sb3, M.of_some, andThen_nx]
theorem ci_len (l : List Nat) : (ci l).length = l.length := by simp [ci]
theorem cL_len (l : List (List Nat)) : (cL l).length = l.length := by simp [cL]
/-! ### all that is asked of a web -/
theorem asks_ok (w : Wb) (hw : w.ok) : p22_law_asks w.web w.tup = .ok true := by
  classical
  have h40 := hw.n40
  have hl : (rangeI 0 (w.n : Int)).length = w.n := by rw [rangeI_len]; omega
  have hp : w.tup.1 = (w.n : Int) := rfl
  obtain ⟨⟨d', n'⟩, h1, h2⟩ := forF_inv (τ := Empty) (ρ := Bool) (f := p22_law_asks_f2 w.web w.tup ((List.range w.n).map fun s => rowP w.n (Rch w.Ed s))) (rangeI 0 (w.n : Int)) (fun i s => s = (cL (KN w i), (List.range w.n).map (fun x => (lix (KN w i) x).map fun k : Nat => (k : Int)))) ([], List.replicate w.n none) (by
      refine Prod.ext rfl ?_
      show List.replicate w.n none = _
      rw [eq_comm, List.eq_replicate_iff]
      exact ⟨by simp, fun b hb => by obtain ⟨x, _, e⟩ := List.mem_map.mp hb; rw [← e]; rfl⟩) (fun i x s hx hs => by
    subst hs
    have hi : i < w.n := by have := (List.getElem?_eq_some_iff.mp hx).1; omega
    have hxe : x = (i : Int) := by
      rw [rangeI_nat, List.getElem?_map, List.getElem?_range hi] at hx
      simpa using hx.symm
    subst hxe
    have hk := KN_len w i
    unfold p22_law_asks_f2
    dsimp only
    rw [reached_ok w hw hi]
    simp only [M.bind_ok]
    rw [hp, rgOk_of (by omega) (by omega), sOk_le' (by omega), lc_lst w.n (Rch w.Ed i) (p22_law_asks_c3 _ (i : Int)) (fun j hj => by
      obtain ⟨b, q1, q2⟩ := rowP_at (P := Rch w.Ed i) hj
      refine ⟨b, q2, ?_⟩
      unfold p22_law_asks_c3
      rw [atRange hi]
      simp only [M.of_some, M.bind_ok]
      rw [q1]
      rfl)]
    simp only [gd_true, M.bind_ok]
    rw [ints_ok _ (by have := lst_len (n := w.n) (P := Rch w.Ed i); rw [ci_len]; omega)]
    simp only [M.bind_ok, Bool.not_true, Bool.false_eq_true, if_false]
    rw [atRange hi]
    simp only [M.of_some, M.bind_ok]
    rw [KN_succ]
    by_cases q : i ∈ (KN w i).flatten
    · refine ⟨_, .inl ?_, rfl⟩
      have : (lix (KN w i) i).isNone = false := by
        cases z : lix (KN w i) i with
        | none => exact absurd q ((lix_none _ _).mp z)
        | some _ => rfl
      rw [Option.isNone_map, this]
      unfold kst
      rw [if_pos q]
      rfl
    · refine ⟨_, .inl ?_, rfl⟩
      rw [Option.isNone_map, (lix_none _ _).mpr q]
      simp only [Option.isNone_none, if_true]
      rw [lc_lst w.n (Mut w i) (p22_law_asks_c4 _ (i : Int)) (fun j hj => by
        obtain ⟨b, q1, q2⟩ := rowP_at (P := Rch w.Ed i) hj
        obtain ⟨c, q3, q4⟩ := rowP_at (P := Rch w.Ed j) hi
        refine ⟨b && c, ?_, ?_⟩
        · rw [Bool.and_eq_true, q2, q4]; rfl
        · unfold p22_law_asks_c4
          rw [atRange hi]
          simp only [M.of_some, M.bind_ok]
          rw [q1]
          simp only [M.of_some, M.bind_ok]
          cases b with
          | false => rfl
          | true =>
            simp only [if_true]
            rw [atRange hj]
            simp only [M.of_some, M.bind_ok]
            rw [q3]
            simp only [M.of_some, M.bind_ok, Bool.true_and])]
      simp only [M.bind_ok]
      rw [setfold w.n (some ((cL (KN w i)).length : Int)) (p22_law_asks_f5 (cL (KN w i))) (fun _ _ => rfl) (lst w.n (Mut w i)) _ (fun q hq => (mem_lst.mp hq).1)]
      rw [andThen_nx, szd (by rw [cL_len]; omega)]
      simp only [gd_true, M.bind_ok]
      unfold kst
      rw [if_neg q]
      refine congrArg (fun z => M.ok (Flow.nx z)) (Prod.ext ?_ ?_)
      · show _ = cL _
        unfold cL knot
        rw [List.map_append]
        rfl
      · apply List.map_congr_left
        intro x _
        rw [lix_snoc, cL_len]
        unfold knot
        split <;> rfl)
  rw [hl] at h2
  have hd : d' = cL (KN w w.n) := congrArg Prod.fst h2
  have hn : n' = _ := congrArg Prod.snd h2
  subst hd
  have hK := KN_len w w.n
  have hnum : n' = ((List.range w.n).map fun x => (((lix (KN w w.n) x).getD 0 : Nat) : Int)).map some := by
    rw [hn, List.map_map]
    apply List.map_congr_left
    intro x hx
    have hx := KN_all w w.n (Nat.le_refl _) x (by simpa using hx)
    cases z : lix (KN w w.n) x with
    | none => exact absurd hx ((lix_none _ _).mp z)
    | some _ => simp [z]
  have f6 : forF (τ := Empty) (p22_law_asks_f6 (cL (KN w w.n)) (cL (KN w w.n))) (rangeI 0 ((cL (KN w w.n)).length : Int)) () = .ok (.nx ()) := forF_unit _ fun x hx => by
    rw [mem_rangeI, cL_len] at hx
    have e : x = ((x.toNat : Nat) : Int) := by omega
    have z := atI_nat' (l := cL (KN w w.n)) (j := x.toNat)
    have hlt : x.toNat < (KN w w.n).length := by omega
    have hk : (KN w w.n)[x.toNat]? = some ((KN w w.n)[x.toNat]'hlt) := List.getElem?_eq_getElem _
    have hmem := List.getElem_mem hlt
    generalize (KN w w.n)[x.toNat]'hlt = l at hk hmem
    obtain ⟨p, rfl⟩ := KN_mem w _ l hmem
    rw [← e] at z
    unfold cL at z
    rw [List.getElem?_map, hk] at z
    have hc : (List.map ci (KN w w.n)) = cL (KN w w.n) := rfl
    rw [hc] at z
    have z : atI (cL (KN w w.n)) x = some (ci (knot w p)) := z
    unfold p22_law_asks_f6
    rw [z]
    simp only [M.of_some, M.bind_ok]
    rw [ints_ok _ (by have := knot_len w p; rw [ci_len]; omega)]
    rfl
  have r0 := refused_out w (-1) (.inl (by omega))
  have r1 := refused_out w (w.n : Int) (.inr (by omega))
  unfold p22_law_asks p22_law_asks_b
  rw [reaches_ok w hw, hp, rgOk_of (by omega) (by omega), sOk_le' (by omega), lc0 w.n (none : Option Int) p22_law_asks_c1 (fun _ => rfl)]
  simp only [gd_true, M.bind_ok]
  rw [h1]
  simp only [andThen_nx]
  rw [knots_ok w hw]
  simp only [M.bind_ok]
  rw [f6, rgOk_of (by rw [cL_len]; omega) (by rw [cL_len]; omega), knot_of_ok w hw]
  simp only [gd_true, M.bind_ok, andThen_nx]
  rw [hnum, ints_ok1 _ (by simp; omega), r0, r1, refused_1, refused_2, refused_3]
  simp
/-! ### one panel or tie more -/
def Wb.addP (w : Wb) (a b : Nat) : Wb := ⟨w.n, w.ps ++ [(a, b)], w.ts, w.near, w.far⟩
def Wb.addT (w : Wb) (a b : Nat) : Wb := ⟨w.n, w.ps, w.ts ++ [(a, b)], w.near, w.far⟩
theorem addP_ok (w : Wb) (hw : w.ok) {a b : Nat} (ha : a < w.n) (hb : b < w.n) (hl : w.ps.length < 60) : (w.addP a b).ok :=
  ⟨hw.n2, hw.n40, inW_snoc hw.ps ha hb, hw.ts, by show (w.ps ++ [(a, b)]).length ≤ 60; simp; omega, hw.lt, hw.near, hw.far, hw.ne⟩
theorem addT_ok (w : Wb) (hw : w.ok) {a b : Nat} (ha : a < w.n) (hb : b < w.n) (hl : w.ts.length < 60) : (w.addT a b).ok :=
  ⟨hw.n2, hw.n40, hw.ps, inW_snoc hw.ts ha hb, hw.lp, by show (w.ts ++ [(a, b)]).length ≤ 60; simp; omega, hw.near, hw.far, hw.ne⟩
theorem panel_ok (w : Wb) {a b : Nat} (hw : (w.addP a b).ok) : p23_Web_with_panel w.web (a : Int) (b : Int) = .ok (w.addP a b).web := by
  have i := init_ok1 _ hw
  have hl := hw.lp
  have hl : (w.ps ++ [(a, b)]).length ≤ 60 := hl
  unfold p23_Web_with_panel p23_Web_with_panel_b
  rw [sOk_le' (by simp [Wb.web] at *; omega)]
  simp only [gd_true, M.bind_ok]
  have e : w.web.panels ++ [((a : Int), (b : Int))] = (w.addP a b).ps.map cp := by
    show w.ps.map cp ++ _ = (w.ps ++ [(a, b)]).map cp
    rw [List.map_append]
    rfl
  rw [e]
  have i : p8_Web___init_1 w.web.places ((w.addP a b).ps.map cp) w.web.ties w.web.near w.web.far = .ok ((), (w.addP a b).web) := i
  rw [i]
  rfl
theorem tie_ok (w : Wb) {a b : Nat} (hw : (w.addT a b).ok) : p24_Web_with_tie w.web (a : Int) (b : Int) = .ok (w.addT a b).web := by
  have i := init_ok2 _ hw
  have hl := hw.lt
  have hl : (w.ts ++ [(a, b)]).length ≤ 60 := hl
  unfold p24_Web_with_tie p24_Web_with_tie_b
  rw [sOk_le' (by simp [Wb.web] at *; omega)]
  simp only [gd_true, M.bind_ok]
  have e : w.web.ties ++ [((a : Int), (b : Int))] = (w.addT a b).ts.map cp := by
    show w.ts.map cp ++ _ = (w.ts ++ [(a, b)]).map cp
    rw [List.map_append]
    rfl
  rw [e]
  have i : p8_Web___init_2 w.web.places w.web.panels ((w.addT a b).ts.map cp) w.web.near w.web.far = .ok ((), (w.addT a b).web) := i
  rw [i]
  rfl
/-- what is asked of the grown web -/
theorem grown_tail (w w' : Wb) (hw : w.ok) (hw' : w'.ok) (hn : w'.n = w.n) (he : ∀ i j, w.Ed i j → w'.Ed i j) (row : List Int) : forF (τ := Empty) (p25_law_grown_f1 w'.web w.web row) (rangeI 0 (w.n : Int)) () = .ok (.nx ()) := forF_unit _ fun x hx => by
  rw [mem_rangeI] at hx
  have e : x = ((x.toNat : Nat) : Int) := by omega
  generalize x.toNat = i at e
  subst e
  have hi : i < w.n := by omega
  unfold p25_law_grown_f1
  rw [reached_ok w' hw' (by omega), reached_ok w hw hi]
  simp only [M.bind_ok]
  rw [forF_unit (f := p25_law_grown_f2 _ row) _ (fun y hy => by
    obtain ⟨j, hj, rfl⟩ := List.mem_map.mp hy
    obtain ⟨h1, h2⟩ := mem_lst.mp hj
    have : (j : Int) ∈ ci (lst w'.n (Rch w'.Ed i)) := List.mem_map.mpr ⟨j, mem_lst.mpr ⟨by omega, Rch.mono he h2⟩, rfl⟩
    unfold p25_law_grown_f2
    rw [decide_eq_true this]
    rfl)]
  rfl
theorem grown_ok (w : Wb) (hw : w.ok) (h1 : w.ps.length < 60) (h2 : w.ts.length < 60) (row : List Int) : ∃ row', p25_law_grown row w.web w.tup = .ok (true, row') := by
  have hn2 := hw.n2
  have h40 := hw.n40
  obtain ⟨v1, r1, hv1, t1⟩ := take_any row w.n (by omega)
  obtain ⟨v2, r2, hv2, t2⟩ := take_any r1 w.n (by omega)
  obtain ⟨v3, r3, hv3, t3⟩ := take_int r2 2 (by decide)
  have hm : (0 : Int) < w.n := by omega
  have hb : (v1 + 1 + v2) % w.n < w.n := Nat.mod_lt _ (by omega)
  refine ⟨r3, ?_⟩
  have hp : w.tup.1 = (w.n : Int) := rfl
  unfold p25_law_grown p25_law_grown_b
  rw [hp, t1]
  simp only [M.bind_ok]
  rw [t2]
  simp only [M.bind_ok, hm, decide_true, gd_true]
  rw [t3]
  simp only [M.bind_ok, nextI]
  have fin : ∀ w' : Wb, w'.ok → w'.n = w.n → (∀ i j, w.Ed i j → w'.Ed i j) → (p22_law_asks w'.web w'.tup).bind (fun v19 => if !v19 then (.ok (.rt (false, r3)) : M (Flow (Bool × List Int) Empty (Bool × List Int))) else (gd (rgOk (w.n : Int))).bind fun _ => (forF (p25_law_grown_f1 w'.web w.web r3) (rangeI 0 (w.n : Int)) ()).andThen fun _ => .ok (.rt (true, r3))) = .ok (.rt (true, r3)) := fun w' hw' hn he => by
    rw [asks_ok w' hw', grown_tail w w' hw hw' hn he r3, rgOk_of (by omega) (by omega)]
    rfl
  have z1 : decide (w.tup.2.1.length < sizeLine) = true := szd (by show (w.ps.map cp).length < _; simp; omega)
  have z2 : decide (w.tup.2.2.1.length < sizeLine) = true := szd (by show (w.ts.map cp).length < _; simp; omega)
  by_cases hv : (v3 : Int) = 0
  · have ok' := addP_ok w hw hv1 hb h1
    rw [decide_eq_true hv, if_pos rfl, panel_ok w ok', z1]
    simp only [M.bind_ok, gd_true, andThen_nx]
    have e : ((w.n : Int), w.tup.2.1 ++ [((v1 : Int), (((v1 + 1 + v2) % w.n : Nat) : Int))], w.tup.2.2.1, w.tup.2.2.2.1, w.tup.2.2.2.2) = (w.addP v1 ((v1 + 1 + v2) % w.n)).tup := by
      show _ = ((w.n : Int), (w.ps ++ [_]).map cp, _)
      rw [List.map_append]
      rfl
    rw [e]
    have f := fin _ ok' rfl (fun i j h => by
      rcases h with h | h
      · exact .inl (List.mem_append.mpr (.inl h))
      · exact .inr h)
    rw [f, toM_rt]
  · have ok' := addT_ok w hw hv1 hb h2
    rw [decide_eq_false hv, if_neg (by simp), tie_ok w ok', z2]
    simp only [M.bind_ok, gd_true, andThen_nx]
    have e : ((w.n : Int), w.tup.2.1, w.tup.2.2.1 ++ [((v1 : Int), (((v1 + 1 + v2) % w.n : Nat) : Int))], w.tup.2.2.2.1, w.tup.2.2.2.2) = (w.addT v1 ((v1 + 1 + v2) % w.n)).tup := by
      show _ = ((w.n : Int), w.ps.map cp, (w.ts ++ [_]).map cp, _)
      rw [List.map_append]
      rfl
    rw [e]
    have f := fin _ ok' rfl (fun i j h => by
      rcases h with h | h | h
      · exact .inl h
      · exact .inr (.inl (List.mem_append.mpr (.inl h)))
      · exact .inr (.inr (List.mem_append.mpr (.inl h))))
    rw [f, toM_rt]
/-! ### the law -/
def ring : Wb := ⟨5, [(0, 2), (2, 3), (3, 2), (3, 1), (4, 1)], [], 0, 1⟩
theorem ring_ok : ring.ok := ⟨by decide, by decide, by unfold inW ring; decide, by unfold inW ring; decide, by decide, by decide, by decide, by decide, by decide⟩
def wideW : Wb := ⟨40, (List.range 39).map (fun k => (k, k + 1)), [(39, 20)], 0, 1⟩
theorem wide_ok : wideW.ok := ⟨by decide, by decide, by unfold inW wideW; decide, by unfold inW wideW; decide, by decide, by decide, by decide, by decide, by decide⟩
theorem law_ok (ns : List Int) (hn : ns.length ≤ 63) : p26_law ns = .ok true := by
  obtain ⟨row, t1⟩ := draws ns hn
  obtain ⟨w, r1, hw, _, h1, h2, t2⟩ := any_ok row
  obtain ⟨r2, t3⟩ := grown_ok w hw (by omega) (by omega) r1
  obtain ⟨v, r3, hv, t4⟩ := take_int r2 16 (by decide)
  have e : ((5 : Int), [((0 : Int), (2 : Int)), ((2 : Int), (3 : Int)), ((3 : Int), (2 : Int)), ((3 : Int), (1 : Int)), ((4 : Int), (1 : Int))], ([] : List (Int × Int)), (0 : Int), (1 : Int)) = ring.tup := rfl
  have l15 : lcF p26_law_c1 (rangeI 0 (39 : Int)) = .ok (wideW.ps.map cp) := by
    rw [show (39 : Int) = ((39 : Nat) : Int) from rfl, rangeI_nat, lcF_comp, lcF_all (f := fun x : Nat => p26_law_c1 (x : Int)) (fun k : Nat => cp (k, k + 1)) _ (fun k _ => rfl)]
    congr 1
  have e2 : ((40 : Int), wideW.ps.map cp, [((39 : Int), (20 : Int))], (0 : Int), (1 : Int)) = wideW.tup := rfl
  have i2 : p8_Web___init (40 : Int) (wideW.ps.map cp) [((39 : Int), (20 : Int))] (0 : Int) (1 : Int) = .ok ((), wideW.web) := init_ok wideW wide_ok
  unfold p26_law p26_law_b
  rw [t1]
  simp only [M.bind_ok]
  rw [t2]
  simp only [M.bind_ok]
  rw [given_ok w hw, e, given_ok ring ring_ok]
  simp only [M.bind_ok]
  rw [asks_ok w hw, asks_ok ring ring_ok, t3]
  simp only [M.bind_ok, Bool.not_true, Bool.false_eq_true, if_false]
  rw [sOk_le' (by rw [rangeI_len]; decide), l15]
  simp only [gd_true, M.bind_ok]
  rw [t4]
  simp only [M.bind_ok]
  rw [i2]
  simp only [M.bind_ok]
  rw [e2, asks_ok wideW wide_ok]
  simp only [M.bind_ok, Bool.not_true, Bool.false_eq_true, if_false, toM_rt]
  split <;> rfl
theorem math (ns : List Int) (hn : ns.length ≤ 63) : ∃ ps, Fof k.G k.fuel k.ds k.ds.length 26 [.scr ns] = .ok (.bl true) ps := by
  have z := (p26_law_ok (n := k.ds.length) (by decide) ns).o
  rw [law_ok ns hn] at z
  exact ⟨_, z⟩
end K05

set_option Elab.async false
set_option linter.all false
set_option maxRecDepth 100000
set_option maxHeartbeats 4000000
theorem PySem.Challenge.cw_shadedstrings_k05_knots_holds : PySem.Challenge.rw_shadedstrings_k05_knots.Holds := by
  exact K05.holds K05.math

