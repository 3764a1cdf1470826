import PyProof.Rows.All
import HandS.ForMost
import HandS.ForExc
import HandS.TryMany
import HandS.SuiteRaise
import KE.SortData
import KE.KDictKeyed
import PyProof.ReprRoads
import PyProof.P3Eq
import PyProof.Rows.EqDataRows
import HandS.TupAny
import HandS.TupMul
import HandS.Deep
import HandS.Conv
import HandS.StrMore
import PyProof.ReprBulk
import PyProof.FitsInt
import HandS.RaiseMore
import HandS.More
import HandS.Iter
import HandS.Comp
import HandS.Ends
import HandS.Words
import HandS.Replace
import PySem.Challenge.RW_coheir_k90_lines_and_words
set_option Elab.async false
set_option linter.all false
set_option maxRecDepth 100000
set_option maxHeartbeats 1000000
/-! SvA: values without a heap: pure data, owned lists; what represents them; how a state evolves. -/
namespace SV
open PySem PySem.Spec PyProof.Rows L2

/-- what a slot, or a result, holds: pure data that is never changed; an owned list; an owned dict; an owned instance -/
inductive S where
  | val (d : PyData)
  | lst (ds : List PyData)
  | dct (kvs : List (PyData × PyData))
  | ins (C : Addr) (fs : List (Str × S))
  | scr (ns : List Int)

def S.toD : S → Option PyData
  | .val d => some d
  | .lst ds => some (.list ds)
  | _ => none

abbrev SSt := List (Option S)
def gets : SSt → Nat → Option S
  | [], _ => none
  | x :: _, 0 => x
  | _ :: r, n + 1 => gets r n
def sets : SSt → Nat → Option S → SSt
  | [], _, _ => []
  | _ :: r, 0, y => y :: r
  | x :: r, n + 1, y => x :: sets r n y
theorem gets_sets_same : ∀ {σ : SSt} {i : Nat} {y : S}, i < σ.length → gets (sets σ i (some y)) i = some y
  | [], i, y, h => absurd h (Nat.not_lt_zero _)
  | _ :: _, 0, _, _ => rfl
  | _ :: r, n + 1, y, h => gets_sets_same (σ := r) (Nat.lt_of_succ_lt_succ h)
theorem gets_sets_ne : ∀ {σ : SSt} {i j : Nat} {y : Option S}, j ≠ i → gets (sets σ i y) j = gets σ j
  | [], _, _, _, _ => rfl
  | _ :: _, 0, 0, _, h => absurd rfl h
  | _ :: _, 0, _ + 1, _, _ => rfl
  | _ :: _, _ + 1, 0, _, _ => rfl
  | _ :: r, i + 1, j + 1, y, h => gets_sets_ne (σ := r) (fun e => h (by rw [e]))
theorem gets_sets_none : ∀ {σ : SSt} {i : Nat}, gets (sets σ i none) i = none
  | [], _ => rfl
  | _ :: _, 0 => rfl
  | _ :: r, n + 1 => gets_sets_none (σ := r)
theorem sets_length : ∀ {σ : SSt} {i : Nat} {y : Option S}, (sets σ i y).length = σ.length
  | [], _, _ => rfl
  | _ :: _, 0, _ => rfl
  | _ :: r, n + 1, y => by
    show (sets r n y).length + 1 = r.length + 1
    rw [sets_length]
theorem gets_some_lt : ∀ {σ : SSt} {i : Nat} {y : S}, gets σ i = some y → i < σ.length
  | [], _, _, h => by cases h
  | _ :: _, 0, _, _ => Nat.succ_pos _
  | _ :: r, n + 1, _, h => Nat.succ_lt_succ (gets_some_lt (σ := r) h)

section
variable (K : PySem.W.Frag)
mutual
/-- v is the pure data d, by objects of I alone -/
inductive PR (I : Hp) : V → PyData → Prop
  | non : PR I .non .none
  | bl (b : Bool) : PR I (.bl b) (.bool b)
  | int (i : Int) : PR I (.int i) (.int i)
  | str (x : Str) : PyData.strOk x = true → x.length ≤ sizeLine → PR I (.str x) (.str x)
  | tup {a : Addr} {vs : List V} {ds : List PyData} : SqT K I a vs → PRs I vs ds → PR I (.ref a) (.tuple ds)
  | lst {a : Addr} {vs : List V} {ds : List PyData} : I a = some (.lst vs) → PRs I vs ds → PR I (.ref a) (.list ds)
inductive PRs (I : Hp) : List V → List PyData → Prop
  | nil : PRs I [] []
  | cons {v : V} {d : PyData} {vs : List V} {ds : List PyData} : PR I v d → PRs I vs ds → PRs I (v :: vs) (d :: ds)
end

mutual
/-- v is r, its owned objects at R -/
inductive SR (I H : Hp) : V → S → List Addr → Prop
  | val {v : V} {d : PyData} : PR K I v d → SR I H v (.val d) []
  | lst {a : Addr} {vs : List V} {ds : List PyData} : H a = some (.lst vs) → PRs K I vs ds → SR I H (.ref a) (.lst ds) [a]
  | scr {a : Addr} {ns : List Int} : SqL K I a (ns.map V.int) → SR I H (.ref a) (.scr ns) []
  | ins {a C dx : Addr} {vf : List (Str × V)} {fs : List (Str × S)} {R : List Addr} : H a = some (.ins C dx vf) → H dx = some (.own a) → FRs I H vf fs R → a ∉ R → dx ∉ R → a ≠ dx → SR I H (.ref a) (.ins C fs) (a :: dx :: R)
inductive FRs (I H : Hp) : List (Str × V) → List (Str × S) → List Addr → Prop
  | nil : FRs I H [] [] []
  | cons {f : Str} {v : V} {r : S} {R Rs : List Addr} {vf : List (Str × V)} {fs : List (Str × S)} : SR I H v r R → FRs I H vf fs Rs → (∀ a ∈ R, a ∉ Rs) → FRs I H ((f, v) :: vf) ((f, r) :: fs) (R ++ Rs)
end
end

abbrev Sub (I H : Hp) : Prop := ∀ a x, I a = some x → H a = some x
theorem Sub.refl (I : Hp) : Sub I I := fun _ _ h => h
theorem Sub.trans {I J H : Hp} (a : Sub I J) (b : Sub J H) : Sub I H := fun c x h => b c x (a c x h)

section
variable {K : PySem.W.Frag} {I I' H H' : Hp}
theorem SqT.sub {a : Addr} {xs : List V} (e : Sub I I') (h : SqT K I a xs) : SqT K I' a xs := by
  rcases h with (h | ⟨o, h⟩) | h
  · exact .inl (.inl (e _ _ h))
  · exact .inl (.inr ⟨o, e _ _ h⟩)
  · exact .inr h
theorem SqL.sub {a : Addr} {xs : List V} (e : Sub I I') (h : SqL K I a xs) : SqL K I' a xs := by
  rcases h with (h | ⟨o, h⟩) | h
  · exact .inl (.inl (e _ _ h))
  · exact .inl (.inr ⟨o, e _ _ h⟩)
  · exact .inr h
mutual
theorem PR.sub (e : Sub I I') : ∀ {v : V} {d : PyData}, PR K I v d → PR K I' v d
  | _, _, .non => .non
  | _, _, .bl b => .bl b
  | _, _, .int i => .int i
  | _, _, .str x h z => .str x h z
  | _, _, .tup h r => .tup (SqT.sub e h) (PRs.sub e r)
  | _, _, .lst h r => .lst (e _ _ h) (PRs.sub e r)
theorem PRs.sub (e : Sub I I') : ∀ {vs : List V} {ds : List PyData}, PRs K I vs ds → PRs K I' vs ds
  | _, _, .nil => .nil
  | _, _, .cons h t => .cons (PR.sub e h) (PRs.sub e t)
end
theorem PRs.length : ∀ {vs : List V} {ds : List PyData}, PRs K I vs ds → vs.length = ds.length
  | _, _, .nil => rfl
  | _, _, .cons _ t => by simp [PRs.length t]
theorem PRs.get : ∀ {vs : List V} {ds : List PyData} {i : Nat} {d : PyData}, PRs K I vs ds → ds[i]? = some d → ∃ v, vs[i]? = some v ∧ PR K I v d
  | _, _, _, _, .nil, h => by simp at h
  | _, _, 0, _, .cons r _, h => by
    simp at h
    subst h
    exact ⟨_, rfl, r⟩
  | _, _, i + 1, _, .cons _ t, h => by
    obtain ⟨v, e, r⟩ := PRs.get (i := i) t (by simpa using h)
    exact ⟨v, by simpa using e, r⟩
theorem PRs.getV : ∀ {vs : List V} {ds : List PyData} {i : Nat} {v : V}, PRs K I vs ds → vs[i]? = some v → ∃ d, ds[i]? = some d ∧ PR K I v d
  | _, _, _, _, .nil, h => by simp at h
  | _, _, 0, _, .cons r _, h => by
    simp at h
    subst h
    exact ⟨_, rfl, r⟩
  | _, _, i + 1, _, .cons _ t, h => by
    obtain ⟨v, e, r⟩ := PRs.getV (i := i) t (by simpa using h)
    exact ⟨v, by simpa using e, r⟩
theorem PRs.append : ∀ {vs : List V} {ds : List PyData} {vs' : List V} {ds' : List PyData}, PRs K I vs ds → PRs K I vs' ds' → PRs K I (vs ++ vs') (ds ++ ds')
  | _, _, _, _, .nil, q => q
  | _, _, _, _, .cons h t, q => .cons h (PRs.append t q)
theorem PRs.take : ∀ {vs : List V} {ds : List PyData} (n : Nat), PRs K I vs ds → PRs K I (vs.take n) (ds.take n)
  | _, _, 0, _ => .nil
  | _, _, _ + 1, .nil => .nil
  | _, _, n + 1, .cons h t => .cons h (PRs.take n t)
theorem PRs.drop : ∀ {vs : List V} {ds : List PyData} (n : Nat), PRs K I vs ds → PRs K I (vs.drop n) (ds.drop n)
  | _, _, 0, h => h
  | _, _, _ + 1, .nil => .nil
  | _, _, n + 1, .cons h t => PRs.drop n t
theorem PRs.reverse : ∀ {vs : List V} {ds : List PyData}, PRs K I vs ds → PRs K I vs.reverse ds.reverse
  | _, _, .nil => .nil
  | _, _, .cons h t => by
    rw [List.reverse_cons, List.reverse_cons]
    exact PRs.append (PRs.reverse t) (.cons h .nil)
theorem PRs.set : ∀ {vs : List V} {ds : List PyData} {v : V} {d : PyData} (i : Nat), PRs K I vs ds → PR K I v d → PRs K I (vs.set i v) (ds.set i d)
  | _, _, _, _, _, .nil, _ => .nil
  | _, _, _, _, 0, .cons _ t, q => .cons q t
  | _, _, _, _, i + 1, .cons h t, q => .cons h (PRs.set i t q)
theorem PRs.ints : ∀ ns : List Int, PRs K I (ns.map V.int) (ns.map PyData.int)
  | [] => .nil
  | n :: r => .cons (.int n) (PRs.ints r)

mutual
theorem PR.canLay : ∀ {v : V} {d : PyData}, PR K I v d → d.canLay0 = true
  | _, _, .non => rfl
  | _, _, .bl _ => rfl
  | _, _, .int _ => rfl
  | _, _, .str _ h _ => h
  | _, _, .tup _ r => PRs.canLay r
  | _, _, .lst _ r => PRs.canLay r
theorem PRs.canLay : ∀ {vs : List V} {ds : List PyData}, PRs K I vs ds → PyData.canLayAll0 ds = true
  | _, _, .nil => rfl
  | _, _, .cons h t => by
    show (PyData.canLay0 _ && PyData.canLayAll0 _) = true
    rw [PR.canLay h, PRs.canLay t]
    rfl
end

mutual
theorem SR.there : ∀ {v : V} {r : S} {R : List Addr}, SR K I H v r R → ∀ a ∈ R, ∃ x, H a = some x
  | _, _, _, .val _, a, h => absurd h (by simp)
  | _, _, _, .scr _, a, h => absurd h (by simp)
  | _, _, _, .lst e _, a, h => by
    rw [List.mem_singleton] at h
    subst h
    exact ⟨_, e⟩
  | _, _, _, .ins e1 e2 f _ _ _, a, h => by
    rcases List.mem_cons.mp h with rfl | h
    · exact ⟨_, e1⟩
    · rcases List.mem_cons.mp h with rfl | h
      · exact ⟨_, e2⟩
      · exact FRs.there f a h
theorem FRs.there : ∀ {vf : List (Str × V)} {fs : List (Str × S)} {R : List Addr}, FRs K I H vf fs R → ∀ a ∈ R, ∃ x, H a = some x
  | _, _, _, .nil, a, h => absurd h (by simp)
  | _, _, _, .cons r t _, a, h => by
    rcases List.mem_append.mp h with h | h
    · exact SR.there r a h
    · exact FRs.there t a h
end
mutual
theorem SR.keep (e : Sub I I') : ∀ {v : V} {r : S} {R : List Addr}, SR K I H v r R → (∀ a ∈ R, ∀ x, H a = some x → H' a = some x) → SR K I' H' v r R
  | _, _, _, .val p, _ => .val (p.sub e)
  | _, _, _, .scr h, k => .scr (SqL.sub e h)
  | _, _, _, .lst h p, k => .lst (k _ (by simp) _ h) (p.sub e)
  | _, _, _, .ins e1 e2 f n1 n2 n3, k => .ins (k _ (by simp) _ e1) (k _ (by simp) _ e2) (FRs.keep e f fun a h => k a (by simp [h])) n1 n2 n3
theorem FRs.keep (e : Sub I I') : ∀ {vf : List (Str × V)} {fs : List (Str × S)} {R : List Addr}, FRs K I H vf fs R → (∀ a ∈ R, ∀ x, H a = some x → H' a = some x) → FRs K I' H' vf fs R
  | _, _, _, .nil, _ => .nil
  | _, _, _, .cons r t d, k => .cons (SR.keep e r fun a h => k a (by simp [h])) (FRs.keep e t fun a h => k a (by simp [h])) d
end

theorem SR.val_inv {v : V} {d : PyData} {R : List Addr} (h : SR K I H v (.val d) R) : R = [] ∧ PR K I v d := by
  generalize e : S.val d = r at h
  cases h with
  | val p => cases e; exact ⟨rfl, p⟩
  | lst => cases e
  | scr => cases e
  | ins => cases e
/-- the owned objects at R become immutable -/
def fz (I H : Hp) (R : List Addr) : Hp := fun a => if a ∈ R then H a else I a
theorem fz_sub {R : List Addr} (h : Sub I H) : Sub (fz I H R) H := fun a x e => by
  unfold fz at e
  split at e
  · exact e
  · exact h a x e
theorem sub_fz {R : List Addr} (n : ∀ a ∈ R, I a = none) : Sub I (fz I H R) := fun a x e => by
  unfold fz
  split
  · rename_i m
    rw [n a m] at e
    cases e
  · exact e
theorem fz_in {R : List Addr} {a : Addr} (h : a ∈ R) : fz I H R a = H a := if_pos h
theorem fz_out {R : List Addr} {a : Addr} (h : a ∉ R) : fz I H R a = I a := if_neg h
theorem SR.freeze {v : V} {r : S} {R : List Addr} {d : PyData} (h : SR K I H v r R) (e : r.toD = some d) (n : ∀ a ∈ R, I a = none) : PR K (fz I H R) v d := by
  cases h with
  | val p =>
    cases e
    exact p.sub (sub_fz n)
  | lst h p =>
    cases e
    refine .lst ?_ (p.sub (sub_fz n))
    rw [fz_in (by simp)]
    exact h
  | ins => cases e
  | scr => cases e
end

section
variable {X : Cx} {pins : List (Addr × Obj)} {σ : L2.St} {H I : Hp} {s : Shared}
mutual
theorem PR.reads (J : Inv X pins σ H s) (sb : Sub I H) : ∀ {v : V} {d : PyData} {u : Value}, PR X.K I v d → RelV v u → ∃ as, Reads s.heap u d as
  | _, _, _, .non, r => by cases r; exact ⟨_, .none⟩
  | _, _, _, .bl b, r => by cases r; exact ⟨_, .bool b⟩
  | _, _, _, .int i, r => by obtain ⟨t, rfl⟩ := r; exact ⟨_, .int i t⟩
  | _, _, _, .str x _ _, r => by obtain ⟨t, rfl⟩ := r; exact ⟨_, .str x t⟩
  | _, _, _, .tup h p, r => by
    cases r
    obtain ⟨its, rv, ⟨o, e, c, n, dd⟩, _⟩ := J.tuple (SqT.sub sb h)
    obtain ⟨as, ra⟩ := PRs.reads J sb p rv
    exact ⟨_, .tuple e c dd (by simpa using ra)⟩
  | _, _, _, .lst h p, r => by
    cases r
    obtain ⟨its, rv, ⟨o, n, e, c, _, dd⟩, _⟩ := J.list (SqL.of (sb _ _ h))
    obtain ⟨as, ra⟩ := PRs.reads J sb p rv
    exact ⟨_, .list e c dd (by simpa using ra)⟩
theorem PRs.reads (J : Inv X pins σ H s) (sb : Sub I H) : ∀ {vs : List V} {ds : List PyData} {us : List Value}, PRs X.K I vs ds → Vals vs us → ∃ as, ReadsAll s.heap us ds as
  | _, _, _, .nil, r => by cases r; exact ⟨_, .nil⟩
  | _, _, _, .cons p t, r => by
    cases r with
    | cons r1 r2 =>
      obtain ⟨as, ra⟩ := PR.reads J sb p r1
      obtain ⟨bs, rb⟩ := PRs.reads J sb t r2
      exact ⟨_, .cons ra rb⟩
end
end
end SV
/-! SvB: a state of slots and what stands behind it; the judgements of expressions. -/
namespace SV
open PySem PySem.Spec PyProof.Rows L2

/-- the owned objects -/
def own (F : Nat → List Addr) : Addr → Prop := fun a => ∃ i, a ∈ F i

/-- the values of a def's arguments, by place -/
def arV (vs : List V) : Nat → Option V := fun i => vs[i]?
theorem arV_none {vs : List V} {i : Nat} (h : vs.length ≤ i) : arV vs i = none := List.getElem?_eq_none h
/-- a slot that is not to be stored -/
def prot (ar : Nat → Option V) (i : Nat) (v : V) : Nat → Option V := fun j => if j = i then some v else ar j
theorem prot_none {ar : Nat → Option V} {i j : Nat} {v : V} (h : j ≠ i) (n : ar j = none) : prot ar i v j = none := by
  unfold prot
  rw [if_neg h]
  exact n

structure Evo (I H : Hp) (o : Addr → Prop) (I' H' : Hp) (o' : Addr → Prop) : Prop where
  up : Sub I I'
  fr : ∀ a x, H a = some x → ¬ o a → H' a = some x
  nw : ∀ a, o' a → o a ∨ H a = none
  ni : ∀ a x, I' a = some x → I a = some x ∨ o a ∨ H a = none
theorem Evo.refl (I H : Hp) (o : Addr → Prop) : Evo I H o I H o := ⟨.refl I, fun _ _ h _ => h, fun _ h => .inl h, fun _ _ h => .inl h⟩
theorem Evo.back {I H I1 H1 : Hp} {o o1 : Addr → Prop} (E : Evo I H o I1 H1 o1) {a : Addr} (h : H1 a = none) : o a ∨ H a = none := by
  cases q : H a with
  | none => exact .inr rfl
  | some x =>
    by_cases c : o a
    · exact .inl c
    · rw [E.fr a x q c] at h
      cases h
theorem Evo.trans {I H I1 H1 I2 H2 : Hp} {o o1 p1 o2 o3 : Addr → Prop} (a : Evo I H o I1 H1 o1) (b : Evo I1 H1 p1 I2 H2 o2) (h1 : ∀ c, p1 c → o1 c) (h3 : ∀ c, o3 c → o1 c ∨ o2 c) : Evo I H o I2 H2 o3 where
  up := a.up.trans b.up
  fr := fun c x q n => by
    refine b.fr c x (a.fr c x q n) fun z => ?_
    rcases a.nw c (h1 c z) with z | z
    · exact n z
    · rw [q] at z
      cases z
  nw := fun c q => by
    rcases h3 c q with z | z
    · exact a.nw c z
    · rcases b.nw c z with z | z
      · exact a.nw c (h1 c z)
      · exact a.back z
  ni := fun c x q => by
    rcases b.ni c x q with z | z | z
    · exact a.ni c x z
    · exact .inr (a.nw c (h1 c z))
    · exact .inr (a.back z)

structure StR (K : PySem.W.Frag) (ar : Nat → Option V) (I H : Hp) (σ : L2.St) (σs : SSt) (F : Nat → List Addr) : Prop where
  sub : Sub I H
  rep : ∀ i r, gets σs i = some r → ∃ v, σ[i]? = some (some v) ∧ SR K I H v r (F i)
  non : ∀ i, gets σs i = none → F i = []
  dis : ∀ i j a, a ∈ F i → a ∈ F j → i = j
  notI : ∀ i, ∀ a ∈ F i, I a = none
  par : ∀ i v r, ar i = some v → gets σs i = some r → (∃ d, r = .val d) ∨ σ[i]? = some (some v)
  len : σs.length = σ.length

section
variable {K : PySem.W.Frag} {ar : Nat → Option V} {I H I' H' : Hp} {σ : L2.St} {σs : SSt} {F : Nat → List Addr}
theorem StR.there (h : StR K ar I H σ σs F) {a : Addr} (m : own F a) : ∃ x, H a = some x := by
  obtain ⟨i, m⟩ := m
  cases q : gets σs i with
  | none =>
    rw [h.non i q] at m
    cases m
  | some r =>
    obtain ⟨v, _, r⟩ := h.rep i r q
    exact r.there a m
theorem StR.ownI (h : StR K ar I H σ σs F) {a : Addr} (m : own F a) : I a = none := let ⟨i, m⟩ := m; h.notI i a m
/-- nothing of it is touched -/
theorem StR.keep (h : StR K ar I H σ σs F) (s : Sub I' H') (e : Sub I I') (k : ∀ a, own F a → ∀ x, H a = some x → H' a = some x) (n : ∀ a, own F a → I' a = none) : StR K ar I' H' σ σs F where
  sub := s
  rep := fun i r q => by
    obtain ⟨v, e1, r1⟩ := h.rep i r q
    exact ⟨v, e1, r1.keep e fun a m => k a ⟨i, m⟩⟩
  non := h.non
  dis := h.dis
  notI := fun i a m => n a ⟨i, m⟩
  par := h.par
  len := h.len
/-- the i-th slot without its objects -/
def drop1 (F : Nat → List Addr) (i : Nat) : Nat → List Addr := fun j => if j = i then [] else F j
theorem own_drop1 {i : Nat} {a : Addr} (m : own (drop1 F i) a) : own F a ∧ a ∉ F i ∨ own F a := by
  obtain ⟨j, m⟩ := m
  unfold drop1 at m
  split at m
  · cases m
  · exact .inr ⟨j, m⟩
theorem own_of_drop1 {i : Nat} {a : Addr} (m : own (drop1 F i) a) : own F a := by
  obtain ⟨j, m⟩ := m
  unfold drop1 at m
  split at m
  · cases m
  · exact ⟨j, m⟩
theorem drop1_not {i : Nat} {a : Addr} (h : StR K ar I H σ σs F) (m : own (drop1 F i) a) : a ∉ F i := by
  obtain ⟨j, m⟩ := m
  unfold drop1 at m
  split at m
  · cases m
  · rename_i ne
    exact fun z => ne (h.dis j i a m z)
/-- a slot is frozen -/
theorem StR.freeze (h : StR K ar I H σ σs F) {i : Nat} {r : S} {d : PyData} (q : gets σs i = some r) (e : r.toD = some d) :
    ∃ v, σ[i]? = some (some v) ∧ PR K (fz I H (F i)) v d ∧ StR K ar (fz I H (F i)) H σ (sets σs i (some (.val d))) (drop1 F i) ∧ Evo I H (own F) (fz I H (F i)) H (own (drop1 F i)) := by
  obtain ⟨v, e1, r1⟩ := h.rep i r q
  have n := h.notI i
  have p := r1.freeze e n
  refine ⟨v, e1, p, ⟨fz_sub h.sub, fun j r' q' => ?_, fun j q' => ?_, fun j k a m m' => ?_, fun j a m => ?_, fun j w r' ha q' => ?_, by rw [sets_length]; exact h.len⟩, ⟨sub_fz n, fun a x q _ => q, fun a m => .inl (own_of_drop1 m), fun a x q => ?_⟩⟩
  · by_cases hj : j = i
    · subst hj
      rw [gets_sets_same (gets_some_lt q)] at q'
      cases q'
      refine ⟨v, e1, ?_⟩
      unfold drop1
      rw [if_pos rfl]
      exact .val p
    · rw [gets_sets_ne hj] at q'
      obtain ⟨w, e2, r2⟩ := h.rep j r' q'
      refine ⟨w, e2, ?_⟩
      unfold drop1
      rw [if_neg hj]
      exact r2.keep (sub_fz n) fun _ _ _ z => z
  · by_cases hj : j = i
    · unfold drop1
      rw [if_pos hj]
    · unfold drop1
      rw [if_neg hj]
      rw [gets_sets_ne hj] at q'
      exact h.non j q'
  · unfold drop1 at m m'
    split at m
    · cases m
    · split at m'
      · cases m'
      · exact h.dis j k a m m'
  · have nm : a ∉ F i := drop1_not h ⟨j, m⟩
    rw [fz_out nm]
    exact h.ownI (own_of_drop1 ⟨j, m⟩)
  · by_cases hj : j = i
    · subst hj
      rw [gets_sets_same (gets_some_lt q)] at q'
      cases q'
      exact .inl ⟨d, rfl⟩
    · rw [gets_sets_ne hj] at q'
      exact h.par j w r' ha q'
  · unfold fz at q
    split at q
    · rename_i m
      exact .inr (.inl ⟨i, m⟩)
    · exact .inl q
/-- a slot is forgotten -/
theorem StR.forget (h : StR K ar I H σ σs F) (i : Nat) : StR K ar I H σ (sets σs i none) (drop1 F i) := by
  refine ⟨h.sub, fun j r' q' => ?_, fun j q' => ?_, fun j k a m m' => ?_, fun j a m => ?_, fun j w r' ha q' => ?_, by rw [sets_length]; exact h.len⟩
  · have hj : j ≠ i := fun e => by
      rw [e, gets_sets_none] at q'
      cases q'
    rw [gets_sets_ne hj] at q'
    obtain ⟨w, e2, r2⟩ := h.rep j r' q'
    refine ⟨w, e2, ?_⟩
    unfold drop1
    rw [if_neg hj]
    exact r2
  · by_cases hj : j = i
    · unfold drop1
      rw [if_pos hj]
    · unfold drop1
      rw [if_neg hj]
      rw [gets_sets_ne hj] at q'
      exact h.non j q'
  · unfold drop1 at m m'
    split at m
    · cases m
    · split at m'
      · cases m'
      · exact h.dis j k a m m'
  · exact h.ownI (own_of_drop1 ⟨j, m⟩)
  · have hj : j ≠ i := fun e => by
      rw [e, gets_sets_none] at q'
      cases q'
    rw [gets_sets_ne hj] at q'
    exact h.par j w r' ha q'
/-- a slot is stored: v, with its own objects R -/
def put1 (F : Nat → List Addr) (i : Nat) (R : List Addr) : Nat → List Addr := fun j => if j = i then R else F j
theorem own_put1 {i : Nat} {R : List Addr} {a : Addr} (m : own (put1 F i R) a) : a ∈ R ∨ own F a := by
  obtain ⟨j, m⟩ := m
  unfold put1 at m
  split at m
  · exact .inl m
  · exact .inr ⟨j, m⟩
theorem StR.store (h : StR K ar I H σ σs F) {i : Nat} {v : V} {r : S} {R : List Addr} (hi : i < σs.length) (q : SR K I H v r R) (nf : ∀ a ∈ R, ¬ own F a) (nI : ∀ a ∈ R, I a = none) (hp : (∃ d, r = .val d) ∨ ar i = none) :
    StR K ar I H (σ.set i (some v)) (sets σs i (some r)) (put1 F i R) := by
  refine ⟨h.sub, fun j r' q' => ?_, fun j q' => ?_, fun j k a m m' => ?_, fun j a m => ?_, fun j w r' ha q' => ?_, by rw [sets_length, List.length_set]; exact h.len⟩
  · by_cases hj : j = i
    · subst hj
      rw [gets_sets_same hi] at q'
      cases q'
      refine ⟨v, ?_, ?_⟩
      · rw [List.getElem?_set_self (by rw [← h.len]; exact hi)]
      · unfold put1
        rw [if_pos rfl]
        exact q
    · rw [gets_sets_ne hj] at q'
      obtain ⟨w, e2, r2⟩ := h.rep j r' q'
      refine ⟨w, by rw [List.getElem?_set_ne (Ne.symm hj)]; exact e2, ?_⟩
      unfold put1
      rw [if_neg hj]
      exact r2
  · have hj : j ≠ i := fun e => by
      rw [e, gets_sets_same hi] at q'
      cases q'
    unfold put1
    rw [if_neg hj]
    rw [gets_sets_ne hj] at q'
    exact h.non j q'
  · unfold put1 at m m'
    split at m
    · split at m'
      · rename_i e1 e2
        rw [e1, e2]
      · exact absurd ⟨k, m'⟩ (nf a m)
    · split at m'
      · exact absurd ⟨j, m⟩ (nf a m')
      · exact h.dis j k a m m'
  · unfold put1 at m
    split at m
    · exact nI a m
    · exact h.notI j a m
  · by_cases hj : j = i
    · subst hj
      rw [gets_sets_same hi] at q'
      cases q'
      rcases hp with z | z
      · exact .inl z
      · rw [z] at ha
        cases ha
    · rw [gets_sets_ne hj] at q'
      rcases h.par j w r' ha q' with z | z
      · exact .inl z
      · exact .inr (by rw [List.getElem?_set_ne (Ne.symm hj)]; exact z)
end

/-! ### exceptions -/
/-- an exception's own data -/
def ED (K : PySem.W.Frag) (I H : Hp) (d : Option Addr) (e : Option (List (Str × PyData))) : Prop :=
  match d, e with
  | none, none => True
  | some a, some fs => ∃ vf : List (Str × V), H a = some (.xd vf) ∧ vf.map (·.1) = fs.map (·.1) ∧ PRs K I (vf.map (·.2)) (fs.map (·.2))
  | _, _ => False
/-- what is wanted of an exception: its class, its data, the slots -/
abbrev XS := Value → Option (List (Str × PyData)) → SSt → Prop
def TX (X : Cx) (ar : Nat → Option V) (I H : Hp) (o : Addr → Prop) (ES : XS) : Prop :=
  ∃ W : WX, Takes X W ∧ ∀ cls d σ' I' H' F' σs' ed, Evo I H o I' H' (own F') → StR X.K ar I' H' σ' σs' F' → ED X.K I' H' d ed → ES cls ed σs' → W cls d σ' H'
theorem TX.none {X : Cx} {ar : Nat → Option V} {I H : Hp} {o : Addr → Prop} : TX X ar I H o (fun _ _ _ => False) := ⟨fun _ _ _ _ => False, takes0, fun _ _ _ _ _ _ _ _ _ _ _ z => z⟩
theorem TX.go {X : Cx} {ar : Nat → Option V} {I H I1 H1 : Hp} {o o1 p1 : Addr → Prop} {ES : XS} (t : TX X ar I H o ES) (a : Evo I H o I1 H1 o1) (h : ∀ c, p1 c → o1 c) : TX X ar I1 H1 p1 ES := by
  obtain ⟨W, tk, f⟩ := t
  exact ⟨W, tk, fun cls d σ' I' H' F' σs' ed b r e q => f cls d σ' I' H' F' σs' ed (a.trans b h fun c z => .inr z) r e q⟩

/-! ### the judgements -/
abbrev KS := S → SSt → Prop
abbrev TEs := SSt → KS → XS → Prop
abbrev TTs := SSt → (Bool → SSt → Prop) → XS → Prop
abbrev TAs := SSt → (List S → SSt → Prop) → XS → Prop

/-- behind an expression: the value v is r with its own objects R; the state has come to σs' -/
structure RPd (X : Cx) (ar : Nat → Option V) (pins : List (Addr × Obj)) (σ : L2.St) (b m : Bool) (I H : Hp) (F : Nat → List Addr) (σs : SSt) (v : V) (r : S) (R : List Addr) (I' H' : Hp) (F' : Nat → List Addr) (σs' : SSt) (s' : Shared) : Prop where
  inv : Inv X pins σ H' s'
  evo : Evo I H (own F) I' H' (fun a => a ∈ R ∨ own F' a)
  st : StR X.K ar I' H' σ σs' F'
  sr : SR X.K I' H' v r R
  nf : m = true → ∀ a ∈ R, ¬ own F' a
  nI : ∀ a ∈ R, I' a = none
  pu : b = true → σs' = σs ∧ F' = F ∧ (∀ a x, H a = some x → H' a = some x)
def RP (X : Cx) (ar : Nat → Option V) (pins : List (Addr × Obj)) (σ : L2.St) (b m : Bool) (I H : Hp) (F : Nat → List Addr) (σs : SSt) (Q : KS) (u : Value) (s' : Shared) : Prop :=
  ∃ v r R I' H' F' σs', RPd X ar pins σ b m I H F σs v r R I' H' F' σs' s' ∧ RelV v u ∧ Q r σs'

/-- b: the state and the heap's objects stay; m: the result is none of the slots' own -/
structure JE (X : Cx) (ar : Nat → Option V) (b m : Bool) (e : Expr) (t : TEs) : Prop where
  run : ∀ (pins : List (Addr × Obj)) (s : Shared) (σ : L2.St) (I H : Hp) (F : Nat → List Addr) (σs : SSt) (Q : KS) (ES : XS), Inv X pins σ H s → StR X.K ar I H σ σs F → TX X ar I H (own F) ES → t σs Q ES →
    wpAny (model X.prog X.w) X.A (eval e X.env) (RP X ar pins σ b m I H F σs Q) X.xe s

/-- behind a test -/
structure BPd (X : Cx) (ar : Nat → Option V) (pins : List (Addr × Obj)) (σ : L2.St) (b : Bool) (I H : Hp) (F : Nat → List Addr) (σs : SSt) (I' H' : Hp) (F' : Nat → List Addr) (σs' : SSt) (s' : Shared) : Prop where
  inv : Inv X pins σ H' s'
  evo : Evo I H (own F) I' H' (own F')
  st : StR X.K ar I' H' σ σs' F'
  pu : b = true → σs' = σs ∧ F' = F ∧ (∀ a x, H a = some x → H' a = some x)
def BP (X : Cx) (ar : Nat → Option V) (pins : List (Addr × Obj)) (σ : L2.St) (b : Bool) (I H : Hp) (F : Nat → List Addr) (σs : SSt) (Q : Bool → SSt → Prop) (c : Bool) (s' : Shared) : Prop :=
  ∃ I' H' F' σs', BPd X ar pins σ b I H F σs I' H' F' σs' s' ∧ Q c σs'
structure JT (X : Cx) (ar : Nat → Option V) (b : Bool) (e : Expr) (t : TTs) : Prop where
  run : ∀ (pins : List (Addr × Obj)) (s : Shared) (σ : L2.St) (I H : Hp) (F : Nat → List Addr) (σs : SSt) (Q : Bool → SSt → Prop) (ES : XS), Inv X pins σ H s → StR X.K ar I H σ σs F → TX X ar I H (own F) ES → t σs Q ES →
    wpAny (model X.prog X.w) X.A (isTrue e X.env (eval e X.env)) (BP X ar pins σ b I H F σs Q) X.xe s
/-- a test whatever its whole is -/
structure JW (X : Cx) (ar : Nat → Option V) (b : Bool) (e : Expr) (t : TTs) : Prop where
  run : ∀ (whole : Sem Value) (pins : List (Addr × Obj)) (s : Shared) (σ : L2.St) (I H : Hp) (F : Nat → List Addr) (σs : SSt) (Q : Bool → SSt → Prop) (ES : XS), Inv X pins σ H s → StR X.K ar I H σ σs F → TX X ar I H (own F) ES → t σs Q ES →
    wpAny (model X.prog X.w) X.A (isTrue e X.env whole) (BP X ar pins σ b I H F σs Q) X.xe s
theorem JW.jt {X : Cx} {ar : Nat → Option V} {b : Bool} {e : Expr} {t : TTs} (h : JW X ar b e t) : JT X ar b e t := ⟨h.run _⟩

section
variable {X : Cx} {ar : Nat → Option V} {pins : List (Addr × Obj)} {σ : L2.St} {I H : Hp} {F : Nat → List Addr} {σs : SSt} {s : Shared}
/-- nothing has changed, and a pure value stands there -/
theorem RP.val {b m : Bool} {Q : KS} {v : V} {u : Value} {d : PyData} (J : Inv X pins σ H s) (st : StR X.K ar I H σ σs F) (p : PR X.K I v d) (r : RelV v u) (q : Q (.val d) σs) : RP X ar pins σ b m I H F σs Q u s :=
  ⟨v, .val d, [], I, H, F, σs, ⟨J, ⟨.refl I, fun _ _ h _ => h, fun a h => by rcases h with h | h; cases h; exact .inl h, fun _ _ h => .inl h⟩, st, .val p, fun _ a m => absurd m (by simp), fun a m => absurd m (by simp), fun _ => ⟨rfl, rfl, fun _ _ h => h⟩⟩, r, q⟩
theorem BPd.refl {b : Bool} (J : Inv X pins σ H s) (st : StR X.K ar I H σ σs F) : BPd X ar pins σ b I H F σs I H F σs s :=
  ⟨J, .refl _ _ _, st, fun _ => ⟨rfl, rfl, fun _ _ h => h⟩⟩
end

/-- a need that is met -/
inductive need {α : Type} (o : Option α) (k : α → Prop) : Prop
  | mk (x : α) : o = some x → k x → need o k
abbrev nd {α : Type} (o : Option α) (k : α → Prop) : Prop := match o with
  | some x => k x
  | none => False
theorem nd_some {α : Type} {o : Option α} {k : α → Prop} (h : nd o k) : ∃ x, o = some x ∧ k x := by
  cases o with
  | none => exact h.elim
  | some x => exact ⟨x, rfl, h⟩
theorem need_of {α : Type} {o : Option α} {x : α} {k : α → Prop} (e : o = some x) (h : k x) : need o k := ⟨x, e, h⟩
theorem need_some {α : Type} {o : Option α} {k : α → Prop} (h : need o k) : ∃ x, o = some x ∧ k x := let ⟨x, e, q⟩ := h; ⟨x, e, q⟩

/-- the result's own objects become immutable -/
theorem RPd.freeze {X : Cx} {ar : Nat → Option V} {pins : List (Addr × Obj)} {σ : L2.St} {b : Bool} {I H I' H' : Hp} {F F' : Nat → List Addr} {σs σs' : SSt} {v : V} {r : S} {R : List Addr} {s' : Shared} {d : PyData}
    (h : RPd X ar pins σ b true I H F σs v r R I' H' F' σs' s') (e : r.toD = some d) : BPd X ar pins σ b I H F σs (fz I' H' R) H' F' σs' s' ∧ PR X.K (fz I' H' R) v d := by
  have n := h.nI
  refine ⟨⟨h.inv, ⟨h.evo.up.trans (sub_fz n), h.evo.fr, fun a m => h.evo.nw a (.inr m), fun a x q => ?_⟩, h.st.keep (fz_sub h.st.sub) (sub_fz n) (fun _ _ _ z => z) (fun a m => ?_), h.pu⟩, h.sr.freeze e n⟩
  · unfold fz at q
    split at q
    · rename_i m
      exact .inr (h.evo.nw a (.inl m))
    · exact h.evo.ni a x q
  · rw [fz_out fun z => h.nf rfl a z m]
    exact h.st.ownI m

/-- two steps in a row -/
theorem BPd.then {X : Cx} {ar : Nat → Option V} {pins : List (Addr × Obj)} {σ : L2.St} {b1 b2 : Bool} {I H I1 H1 I2 H2 : Hp} {F F1 F2 : Nat → List Addr} {σs σ1 σ2 : SSt} {s1 s2 : Shared}
    (a : BPd X ar pins σ b1 I H F σs I1 H1 F1 σ1 s1) (c : BPd X ar pins σ b2 I1 H1 F1 σ1 I2 H2 F2 σ2 s2) : BPd X ar pins σ (b1 && b2) I H F σs I2 H2 F2 σ2 s2 := by
  refine ⟨c.inv, a.evo.trans c.evo (fun _ z => z) (fun _ z => .inr z), c.st, fun hb => ?_⟩
  rw [Bool.and_eq_true] at hb
  obtain ⟨e1, e2, e3⟩ := a.pu hb.1
  obtain ⟨g1, g2, g3⟩ := c.pu hb.2
  exact ⟨g1.trans e1, g2.trans e2, fun a x q => g3 a x (e3 a x q)⟩
theorem BPd.thenR {X : Cx} {ar : Nat → Option V} {pins : List (Addr × Obj)} {σ : L2.St} {b1 b2 m : Bool} {I H I1 H1 I2 H2 : Hp} {F F1 F2 : Nat → List Addr} {σs σ1 σ2 : SSt} {s1 s2 : Shared} {v : V} {r : S} {R : List Addr}
    (a : BPd X ar pins σ b1 I H F σs I1 H1 F1 σ1 s1) (c : RPd X ar pins σ b2 m I1 H1 F1 σ1 v r R I2 H2 F2 σ2 s2) : RPd X ar pins σ (b1 && b2) m I H F σs v r R I2 H2 F2 σ2 s2 := by
  refine ⟨c.inv, a.evo.trans c.evo (fun _ z => z) (fun _ z => .inr z), c.st, c.sr, c.nf, c.nI, fun hb => ?_⟩
  rw [Bool.and_eq_true] at hb
  obtain ⟨e1, e2, e3⟩ := a.pu hb.1
  obtain ⟨g1, g2, g3⟩ := c.pu hb.2
  exact ⟨g1.trans e1, g2.trans e2, fun a x q => g3 a x (e3 a x q)⟩
theorem TX.then {X : Cx} {ar : Nat → Option V} {pins : List (Addr × Obj)} {σ : L2.St} {b1 : Bool} {I H I1 H1 : Hp} {F F1 : Nat → List Addr} {σs σ1 : SSt} {s1 : Shared} {ES : XS} (t : TX X ar I H (own F) ES)
    (a : BPd X ar pins σ b1 I H F σs I1 H1 F1 σ1 s1) : TX X ar I1 H1 (own F1) ES := t.go a.evo fun _ z => z

/-- the state behind an expression, its result dropped -/
theorem RPd.base {X : Cx} {ar : Nat → Option V} {pins : List (Addr × Obj)} {σ : L2.St} {b m : Bool} {I H I' H' : Hp} {F F' : Nat → List Addr} {σs σs' : SSt} {v : V} {r : S} {R : List Addr} {s' : Shared}
    (h : RPd X ar pins σ b m I H F σs v r R I' H' F' σs' s') : BPd X ar pins σ b I H F σs I' H' F' σs' s' :=
  ⟨h.inv, ⟨h.evo.up, h.evo.fr, fun a z => h.evo.nw a (.inr z), h.evo.ni⟩, h.st, h.pu⟩
/-- what was made ahead of a further step stands behind it -/
theorem RPd.over {X : Cx} {ar : Nat → Option V} {pins : List (Addr × Obj)} {σ : L2.St} {b1 b2 m : Bool} {I H I1 H1 I2 H2 : Hp} {F F1 F2 : Nat → List Addr} {σs σ1 σ2 : SSt} {v : V} {r : S} {R : List Addr} {s1 s2 : Shared}
    (h : RPd X ar pins σ b1 m I H F σs v r R I1 H1 F1 σ1 s1) (c : BPd X ar pins σ b2 I1 H1 F1 σ1 I2 H2 F2 σ2 s2) (hm : m = true ∨ b2 = true) :
    SR X.K I2 H2 v r R ∧ (∀ a ∈ R, I2 a = none) ∧ (m = true → ∀ a ∈ R, ¬ own F2 a) ∧ RPd X ar pins σ (b1 && b2) m I H F σs v r R I2 H2 F2 σ2 s2 := by
  have there := h.sr.there
  have k : ∀ a ∈ R, ∀ x, H1 a = some x → H2 a = some x := fun a z x q => by
    rcases hm with hm | hm
    · exact c.evo.fr a x q (h.nf hm a z)
    · exact (c.pu hm).2.2 a x q
  have n : ∀ a ∈ R, I2 a = none := fun a z => by
    cases e0 : I2 a with
    | none => rfl
    | some x =>
      rcases c.evo.ni a x e0 with e | e | e
      · rw [h.nI a z] at e
        cases e
      · rcases hm with hm | hm
        · exact absurd e (h.nf hm a z)
        · have e2 : own F2 a := by rw [(c.pu hm).2.1]; exact e
          have e3 := c.st.ownI e2
          rw [e0] at e3
          cases e3
      · obtain ⟨y, e2⟩ := there a z
        rw [e] at e2
        cases e2
  have nf : m = true → ∀ a ∈ R, ¬ own F2 a := fun hm a z q => by
    rcases c.evo.nw a q with q | q
    · exact h.nf hm a z q
    · obtain ⟨y, e2⟩ := there a z
      rw [q] at e2
      cases e2
  have b := h.base.then c
  have sr := h.sr.keep c.evo.up k
  refine ⟨sr, n, nf, b.inv, ⟨b.evo.up, b.evo.fr, fun a z => ?_, b.evo.ni⟩, b.st, sr, nf, n, b.pu⟩
  rcases z with z | z
  · exact h.evo.nw a (.inl z)
  · exact b.evo.nw a z
end SV
/-! SvC: operations on values. -/
namespace SV
open PySem PySem.Spec PyProof.Rows L2

/-- behind an operation on pure values: all that stood stands, the result is r, with its own new objects R -/
structure VPd (X : Cx) (I H : Hp) (v : V) (r : S) (R : List Addr) (I' H' : Hp) : Prop where
  up : Sub I I'
  sub : Sub I' H'
  grow : Sub H H'
  newR : ∀ a ∈ R, H a = none
  newI : ∀ a x, I' a = some x → I a = some x ∨ H a = none
  sr : SR X.K I' H' v r R
  nI : ∀ a ∈ R, I' a = none
def VP (X : Cx) (I H : Hp) (Q : S → Prop) : VK := fun v H' => ∃ r R I', VPd X I H v r R I' H' ∧ Q r
theorem upd_grow {H : Hp} {p : Addr} {o : HO} (h : H p = none) : Sub H (upd H p o) := fun a x q => by
  rw [upd_ne (ne_of_none q h)]
  exact q
theorem upd_sub {I H : Hp} {p : Addr} {o : HO} (s : Sub I H) : Sub (upd I p o) (upd H p o) := fun a x q => by
  unfold upd at q ⊢
  split at q
  · rename_i e
    rw [if_pos e]
    exact q
  · rename_i e
    rw [if_neg e]
    exact s a x q
theorem sub_none {I H : Hp} {p : Addr} (s : Sub I H) (h : H p = none) : I p = none := by
  cases e : I p with
  | none => rfl
  | some x =>
    rw [s p x e] at h
    cases h
section
variable {X : Cx} {I H : Hp} {Q : S → Prop} {v : V} {d : PyData} {p : Addr} {vs : List V} {ds : List PyData}
theorem VP.val (s : Sub I H) (h : PR X.K I v d) (q : Q (.val d)) : VP X I H Q v H :=
  ⟨.val d, [], I, ⟨.refl I, s, .refl H, fun _ m => absurd m (by simp), fun _ _ h => .inl h, .val h, fun _ m => absurd m (by simp)⟩, q⟩
theorem VP.newTup (s : Sub I H) (hp : H p = none) (h : PRs X.K I vs ds) (q : Q (.val (.tuple ds))) : VP X I H Q (.ref p) (upd H p (.tup vs)) :=
  ⟨_, [], upd I p (.tup vs), ⟨upd_grow (sub_none s hp), upd_sub s, upd_grow hp, fun _ m => absurd m (by simp), fun a x q => by
    by_cases e : a = p
    · subst e; exact .inr hp
    · rw [upd_ne e] at q; exact .inl q, .val (.tup (SqT.of upd_same) (h.sub (upd_grow (sub_none s hp)))), fun _ m => absurd m (by simp)⟩, q⟩
theorem VP.newLst (s : Sub I H) (hp : H p = none) (h : PRs X.K I vs ds) (q : Q (.lst ds)) : VP X I H Q (.ref p) (upd H p (.lst vs)) :=
  ⟨_, [p], I, ⟨.refl I, s.trans (upd_grow hp), upd_grow hp, fun a m => by
    rw [List.mem_singleton] at m
    subst m
    exact hp, fun _ _ h => .inl h, .lst upd_same h, fun a m => by
    rw [List.mem_singleton] at m
    subst m
    exact sub_none s hp⟩, q⟩
end
/-- data to be read: pure, or an owned list -/
inductive AR (K : PySem.W.Frag) (I H : Hp) : V → PyData → Prop
  | non : AR K I H .non .none
  | bl (b : Bool) : AR K I H (.bl b) (.bool b)
  | int (i : Int) : AR K I H (.int i) (.int i)
  | str (x : Str) : PyData.strOk x = true → x.length ≤ sizeLine → AR K I H (.str x) (.str x)
  | tup {a : Addr} {vs : List V} {ds : List PyData} : SqT K I a vs → PRs K I vs ds → AR K I H (.ref a) (.tuple ds)
  | lst {a : Addr} {vs : List V} {ds : List PyData} : H a = some (.lst vs) → PRs K I vs ds → AR K I H (.ref a) (.list ds)
theorem PR.ar {K : PySem.W.Frag} {I H : Hp} {v : V} {d : PyData} (sb : Sub I H) (p : PR K I v d) : AR K I H v d := by
  cases p with
  | non => exact .non
  | bl b => exact .bl b
  | int i => exact .int i
  | str x h z => exact .str x h z
  | tup h p => exact .tup h p
  | lst h p => exact .lst (sb _ _ h) p
theorem SR.ar {K : PySem.W.Frag} {I H : Hp} {v : V} {r : S} {R : List Addr} {d : PyData} (sb : Sub I H) (h : SR K I H v r R) (e : r.toD = some d) : AR K I H v d := by
  cases h with
  | val p => cases e; exact p.ar sb
  | lst h p => cases e; exact .lst h p
  | ins => cases e
  | scr => cases e
inductive ARs (K : PySem.W.Frag) (I H : Hp) : List V → List PyData → Prop
  | nil : ARs K I H [] []
  | cons {v : V} {d : PyData} {vs : List V} {ds : List PyData} : AR K I H v d → ARs K I H vs ds → ARs K I H (v :: vs) (d :: ds)
theorem AR.canLay {K : PySem.W.Frag} {I H : Hp} {v : V} {d : PyData} (h : AR K I H v d) : d.canLay0 = true := by
  cases h with
  | non => rfl
  | bl b => rfl
  | int i => rfl
  | str x h z => exact h
  | tup h p => exact p.canLay
  | lst h p => exact p.canLay
theorem AR.reads {X : Cx} {pins : List (Addr × Obj)} {σ : L2.St} {H I : Hp} {s : Shared} {v : V} {d : PyData} {u : Value} (J : Inv X pins σ H s) (sb : Sub I H) (h : AR X.K I H v d) (r : RelV v u) : ∃ as, Reads s.heap u d as := by
  cases h with
  | non => exact PR.reads J sb .non r
  | bl b => exact PR.reads J sb (.bl b) r
  | int i => exact PR.reads J sb (.int i) r
  | str x h z => exact PR.reads J sb (.str x h z) r
  | tup h p => exact PR.reads J sb (.tup h p) r
  | lst h p =>
    cases r
    obtain ⟨its, rv, ⟨o, n, e, c, _, dd⟩, _⟩ := J.list (SqL.of h)
    obtain ⟨as, ra⟩ := PRs.reads J sb p rv
    exact ⟨_, .list e c dd (by simpa using ra)⟩
theorem RP.of_vp {X : Cx} {ar : Nat → Option V} {pins : List (Addr × Obj)} {σ : L2.St} {b : Bool} {I H I1 H1 : Hp} {F F1 : Nat → List Addr} {σs σ1 : SSt} {s1 s' : Shared} {Q : KS} {u : Value}
    (a : BPd X ar pins σ b I H F σs I1 H1 F1 σ1 s1) (h : EP X pins σ (VP X I1 H1 fun r => Q r σ1) u s') : RP X ar pins σ b true I H F σs Q u s' := by
  obtain ⟨v, H', J, rv, r, R, I', d, q⟩ := h
  have nf : ∀ c ∈ R, ¬ own F1 c := fun c m z => by
    obtain ⟨x, e⟩ := a.st.there z
    rw [d.newR c m] at e
    cases e
  refine ⟨v, r, R, I', H', F1, σ1, ⟨J, ⟨a.evo.up.trans d.up, fun c x q n => d.grow c x (a.evo.fr c x q n), fun c m => ?_, fun c x q => ?_⟩, a.st.keep d.sub d.up (fun c _ x q => d.grow c x q) (fun c m => ?_), d.sr, fun _ => nf, d.nI, fun hb => ?_⟩, rv, q⟩
  · rcases m with m | m
    · exact a.evo.back (d.newR c m)
    · exact a.evo.nw c m
  · rcases d.newI c x q with q | q
    · exact a.evo.ni c x q
    · exact .inr (a.evo.back q)
  · cases e : I' c with
    | none => rfl
    | some x =>
      rcases d.newI c x e with e | e
      · rw [a.st.ownI m] at e
        cases e
      · obtain ⟨y, e2⟩ := a.st.there m
        rw [e] at e2
        cases e2
  · obtain ⟨e1, e2, e3⟩ := a.pu hb
    exact ⟨e1, e2, fun c x q => d.grow c x (e3 c x q)⟩

abbrev R1s := PyData → (S → Prop) → Prop
abbrev R2s := PyData → PyData → (S → Prop) → Prop
abbrev RNs := List PyData → (S → Prop) → Prop
def Op1 (X : Cx) (f : Value → Sem Value) (r : R1s) : Prop :=
  ∀ (pins : List (Addr × Obj)) (s : Shared) (σ : L2.St) (H I : Hp) (x : V) (v : Value) (d : PyData) (Q : S → Prop), Inv X pins σ H s → Sub I H → RelV x v → AR X.K I H x d → r d Q →
    wpAny (model X.prog X.w) X.A (f v) (EP X pins σ (VP X I H Q)) X.xe s
def Op2 (X : Cx) (f : Value → Value → Sem Value) (r : R2s) : Prop :=
  ∀ (pins : List (Addr × Obj)) (s : Shared) (σ : L2.St) (H I : Hp) (x y : V) (v u : Value) (d e : PyData) (Q : S → Prop), Inv X pins σ H s → Sub I H → RelV x v → RelV y u → AR X.K I H x d → AR X.K I H y e → r d e Q →
    wpAny (model X.prog X.w) X.A (f v u) (EP X pins σ (VP X I H Q)) X.xe s
def OpN (X : Cx) (f : List Value → Sem Value) (r : RNs) : Prop :=
  ∀ (pins : List (Addr × Obj)) (s : Shared) (σ : L2.St) (H I : Hp) (xs : List V) (us : List Value) (ds : List PyData) (Q : S → Prop), Inv X pins σ H s → Sub I H → Vals xs us → ARs X.K I H xs ds → r ds Q →
    wpAny (model X.prog X.w) X.A (f us) (EP X pins σ (VP X I H Q)) X.xe s

/-! ### arithmetic -/
def rAdd : R2s
  | .int i, .int j, Q => Q (.val (.int (i + j)))
  | .str x, .str y, Q => x.length + y.length ≤ sizeLine ∧ Q (.val (.str (x ++ y)))
  | .list xs, .list ys, Q => xs.length + ys.length ≤ sizeLine ∧ Q (.lst (xs ++ ys))
  | .tuple xs, .tuple ys, Q => xs.length + ys.length ≤ sizeLine ∧ Q (.val (.tuple (xs ++ ys)))
  | _, _, _ => False
theorem strOk_append {x y : Str} (hx : PyData.strOk x = true) (hy : PyData.strOk y = true) : PyData.strOk (x ++ y) = true := by
  show (x.cps ++ y.cps).all _ = true
  rw [Array.all_append]
  exact (Bool.and_eq_true _ _).mpr ⟨hx, hy⟩
theorem str_append_length (x y : Str) : (x ++ y).length = x.length + y.length := by
  show (x.cps ++ y.cps).size = x.cps.size + y.cps.size
  rw [Array.size_append]
section
variable {X : Cx}
theorem o_add : Op2 X (binaryOp .Add) rAdd := by
  intro pins s σ H I x y v u d e Q J sb rx ry px py q
  cases px with
  | int i =>
    cases py with
    | int j => exact op_add pins s σ H _ _ v u _ J rx ry ⟨i, j, rfl, rfl, .val sb (.int _) q⟩
    | _ => exact q.elim
  | str a ha za =>
    cases py with
    | str b hb zb =>
      obtain ⟨hz, q⟩ := q
      exact op_add_str pins s σ H _ _ v u _ J rx ry ⟨a, b, rfl, rfl, hz, .val sb (.str _ (strOk_append ha hb) (by rw [str_append_length]; exact hz)) q⟩
    | _ => exact q.elim
  | lst h p =>
    cases py with
    | lst h' p' =>
      obtain ⟨hz, q⟩ := q
      exact op_cat pins s σ H _ _ v u _ J rx ry ⟨_, _, _, _, rfl, rfl, h, h', by rw [p.length, p'.length]; exact hz, fun a ha => .newLst sb ha (p.append p') q⟩
    | _ => exact q.elim
  | tup h p =>
    cases py with
    | tup h' p' =>
      obtain ⟨hz, q⟩ := q
      refine op_catA pins s σ H _ _ v u _ J rx ry ⟨_, _, _, _, rfl, rfl, SqT.sub sb h, SqT.sub sb h', by rw [p.length, p'.length]; exact hz, fun e => ?_, fun _ e => ?_, fun _ _ a ha => .newTup sb ha (p.append p') q⟩
      · subst e
        cases p
        exact .val sb (.tup h' p') (by simpa using q)
      · subst e
        cases p'
        exact .val sb (.tup h p) (by simpa using q)
    | _ => exact q.elim
  | _ => exact q.elim
def rSub : R2s
  | .int i, .int j, Q => Q (.val (.int (i - j)))
  | _, _, _ => False
theorem o_sub : Op2 X (binaryOp .Sub) rSub := by
  intro pins s σ H I x y v u d e Q J sb rx ry px py q
  cases px with
  | int i =>
    cases py with
    | int j => exact op_sub pins s σ H _ _ v u _ J rx ry ⟨i, j, rfl, rfl, .val sb (.int _) q⟩
    | _ => exact q.elim
  | _ => exact q.elim
def rMod : R2s
  | .int i, .int j, Q => 0 < j ∧ Q (.val (.int (i % j)))
  | _, _, _ => False
theorem o_mod : Op2 X (binaryOp .Mod) rMod := by
  intro pins s σ H I x y v u d e Q J sb rx ry px py q
  cases px with
  | int i =>
    cases py with
    | int j => exact op_mod pins s σ H _ _ v u _ J rx ry ⟨i, j, rfl, rfl, q.1, .val sb (.int _) q.2⟩
    | _ => exact q.elim
  | _ => exact q.elim
def rFdiv : R2s
  | .int i, .int j, Q => CDiv i j ∧ Q (.val (.int (i / j)))
  | _, _, _ => False
theorem o_fdiv : Op2 X (binaryOp .FloorDiv) rFdiv := by
  intro pins s σ H I x y v u d e Q J sb rx ry px py q
  cases px with
  | int i =>
    cases py with
    | int j => exact op_fdiv pins s σ H _ _ v u _ J rx ry ⟨i, j, rfl, rfl, q.1, .val sb (.int _) q.2⟩
    | _ => exact q.elim
  | _ => exact q.elim
def rMul : R2s
  | .int i, .int j, Q => CMul i j ∧ Q (.val (.int (i * j)))
  | .list xs, .int k, Q => (-(2 ^ 63) ≤ k ∧ k < 2 ^ 63 ∧ xs.length * k.toNat ≤ sizeLine) ∧ Q (.lst (List.replicate k.toNat xs).flatten)
  | .tuple xs, .int k, Q => (xs ≠ [] ∧ 2 ≤ k ∧ k ≤ 1000 ∧ xs.length ≤ 1000) ∧ Q (.val (.tuple (List.replicate k.toNat xs).flatten))
  | _, _, _ => False
theorem PRs.rep {K : PySem.W.Frag} {I : Hp} {vs : List V} {ds : List PyData} (p : PRs K I vs ds) : ∀ n : Nat, PRs K I (List.replicate n vs).flatten (List.replicate n ds).flatten
  | 0 => .nil
  | n + 1 => by
    rw [List.replicate_succ, List.replicate_succ, List.flatten_cons, List.flatten_cons]
    exact p.append (PRs.rep p n)
theorem PRs.ne_nil {K : PySem.W.Frag} {I : Hp} {vs : List V} {ds : List PyData} (p : PRs K I vs ds) (h : ds ≠ []) : vs ≠ [] := fun e => by
  subst e
  cases p
  exact h rfl
theorem o_mul : Op2 X (binaryOp .Mult) rMul := by
  intro pins s σ H I x y v u d e Q J sb rx ry px py q
  cases px with
  | int i =>
    cases py with
    | int j => exact op_mul pins s σ H _ _ v u _ J rx ry ⟨i, j, rfl, rfl, q.1, .val sb (.int _) q.2⟩
    | _ => exact q.elim
  | lst h p =>
    cases py with
    | int k =>
      obtain ⟨⟨h1, h2, h3⟩, q⟩ := q
      exact op_rep pins s σ H _ _ v u _ J rx ry ⟨_, k, _, rfl, rfl, h, h1, h2, by rw [p.length]; exact h3, fun a ha => .newLst sb ha (p.rep _) q⟩
    | _ => exact q.elim
  | tup h p =>
    cases py with
    | int k =>
      obtain ⟨⟨h1, h2, h3, h4⟩, q⟩ := q
      exact op_repT pins s σ H _ _ v u _ J rx ry ⟨_, k, _, rfl, rfl, SqT.sub sb h, p.ne_nil h1, h2, h3, by rw [p.length]; exact h4, fun a ha => .newTup sb ha (p.rep _) q⟩
    | _ => exact q.elim
  | _ => exact q.elim
def rPow : R2s
  | .int i, .int j, Q => CPow i j ∧ Q (.val (.int (i ^ j.toNat)))
  | _, _, _ => False
theorem o_pow : Op2 X (binaryOp .Pow) rPow := by
  intro pins s σ H I x y v u d e Q J sb rx ry px py q
  cases px with
  | int i =>
    cases py with
    | int j => exact op_pow pins s σ H _ _ v u _ J rx ry ⟨i, j, rfl, rfl, q.1, .val sb (.int _) q.2⟩
    | _ => exact q.elim
  | _ => exact q.elim
def rNeg : R1s
  | .int i, Q => Q (.val (.int (-i)))
  | _, _ => False
theorem o_neg : Op1 X (unaryOp .USub) rNeg := by
  intro pins s σ H I x v d Q J sb rx px q
  cases px with
  | int i => exact un_neg pins s σ H _ v _ J rx ⟨i, rfl, .val sb (.int _) q⟩
  | _ => exact q.elim

/-! ### comparisons -/
def rEq : R2s := fun d e Q => (d.depth ≤ 64 ∧ e.depth ≤ 64) ∧ Q (.val (.bool (PyData.eqv d e)))
def rNe : R2s := fun d e Q => (d.depth ≤ 64 ∧ e.depth ≤ 64) ∧ Q (.val (.bool (!PyData.eqv d e)))
theorem shaped_of {d : PyData} (h : d.canLay0 = true) (z : d.depth ≤ 64) : SeqAt.shaped d = true := by
  unfold SeqAt.shaped
  rw [h, decide_eq_true z]
  rfl
theorem o_eq (hu : X.A.units + 64 < cLine) : Op2 X (compareOp .Eq) rEq := by
  intro pins s σ H I x y v u d e Q J sb rx ry px py q
  obtain ⟨as, r1⟩ := px.reads J sb rx
  obtain ⟨bs, r2⟩ := py.reads J sb ry
  exact eq_dataH r1 r2 (shaped_of px.canLay q.1.1) (shaped_of py.canLay q.1.2) hu ⟨.bl _, H, J, rfl, .val sb (.bl _) q.2⟩
theorem o_ne (hu : X.A.units + 64 < cLine) : Op2 X (compareOp .NotEq) rNe := by
  intro pins s σ H I x y v u d e Q J sb rx ry px py q
  obtain ⟨as, r1⟩ := px.reads J sb rx
  obtain ⟨bs, r2⟩ := py.reads J sb ry
  exact ne_dataH r1 r2 (shaped_of px.canLay q.1.1) (shaped_of py.canLay q.1.2) hu ⟨.bl _, H, J, rfl, .val sb (.bl _) q.2⟩
def rLt : R2s
  | .int i, .int j, Q => Q (.val (.bool (decide (i < j))))
  | .str x, .str y, Q => Q (.val (.bool (decide (x.cps.toList < y.cps.toList))))
  | _, _, _ => False
def rLe : R2s
  | .int i, .int j, Q => Q (.val (.bool (decide (i ≤ j))))
  | .str x, .str y, Q => Q (.val (.bool (!decide (y.cps.toList < x.cps.toList))))
  | _, _, _ => False
def rGt : R2s
  | .int i, .int j, Q => Q (.val (.bool (decide (j < i))))
  | .str x, .str y, Q => Q (.val (.bool (decide (y.cps.toList < x.cps.toList))))
  | _, _, _ => False
def rGe : R2s
  | .int i, .int j, Q => Q (.val (.bool (decide (j ≤ i))))
  | .str x, .str y, Q => Q (.val (.bool (!decide (x.cps.toList < y.cps.toList))))
  | _, _, _ => False
theorem o_lt : Op2 X (compareOp .Lt) rLt := by
  intro pins s σ H I x y v u d e Q J sb rx ry px py q
  cases px with
  | int i =>
    cases py with
    | int j => exact op_lt pins s σ H _ _ v u _ J rx ry ⟨i, j, rfl, rfl, .val sb (.bl _) q⟩
    | _ => exact q.elim
  | str a _ _ =>
    cases py with
    | str b _ _ => exact op_lt_str pins s σ H _ _ v u _ J rx ry ⟨a, b, rfl, rfl, .val sb (.bl _) q⟩
    | _ => exact q.elim
  | _ => exact q.elim
theorem o_le : Op2 X (compareOp .LtE) rLe := by
  intro pins s σ H I x y v u d e Q J sb rx ry px py q
  cases px with
  | int i =>
    cases py with
    | int j => exact op_le pins s σ H _ _ v u _ J rx ry ⟨i, j, rfl, rfl, .val sb (.bl _) q⟩
    | _ => exact q.elim
  | str a _ _ =>
    cases py with
    | str b _ _ => exact op_le_str pins s σ H _ _ v u _ J rx ry ⟨a, b, rfl, rfl, .val sb (.bl _) q⟩
    | _ => exact q.elim
  | _ => exact q.elim
theorem o_gt : Op2 X (compareOp .Gt) rGt := by
  intro pins s σ H I x y v u d e Q J sb rx ry px py q
  cases px with
  | int i =>
    cases py with
    | int j => exact op_gt pins s σ H _ _ v u _ J rx ry ⟨i, j, rfl, rfl, .val sb (.bl _) q⟩
    | _ => exact q.elim
  | str a _ _ =>
    cases py with
    | str b _ _ => exact op_gt_str pins s σ H _ _ v u _ J rx ry ⟨a, b, rfl, rfl, .val sb (.bl _) q⟩
    | _ => exact q.elim
  | _ => exact q.elim
theorem o_ge : Op2 X (compareOp .GtE) rGe := by
  intro pins s σ H I x y v u d e Q J sb rx ry px py q
  cases px with
  | int i =>
    cases py with
    | int j => exact op_ge pins s σ H _ _ v u _ J rx ry ⟨i, j, rfl, rfl, .val sb (.bl _) q⟩
    | _ => exact q.elim
  | str a _ _ =>
    cases py with
    | str b _ _ => exact op_ge_str pins s σ H _ _ v u _ J rx ry ⟨a, b, rfl, rfl, .val sb (.bl _) q⟩
    | _ => exact q.elim
  | _ => exact q.elim
def inD (d : PyData) (xs : List PyData) : Bool := xs.any fun z => PyData.eqv z d
def rIn : R2s
  | d, .list xs, Q => d.depth ≤ 64 ∧ Q (.val (.bool (inD d xs)))
  | d, .tuple xs, Q => d.depth ≤ 64 ∧ Q (.val (.bool (inD d xs)))
  | .str x, .str y, Q => Q (.val (.bool (!(Builtin.Str.occurrences y x 0 y.length 1).isEmpty)))
  | _, _, _ => False
def rNotIn : R2s
  | d, .list xs, Q => d.depth ≤ 64 ∧ Q (.val (.bool (!inD d xs)))
  | d, .tuple xs, Q => d.depth ≤ 64 ∧ Q (.val (.bool (!inD d xs)))
  | .str x, .str y, Q => Q (.val (.bool (!(!(Builtin.Str.occurrences y x 0 y.length 1).isEmpty))))
  | _, _, _ => False
theorem o_in (hu : X.A.units + 65 < cLine) : Op2 X (compareOp .In) rIn := by
  intro pins s σ H I x y v u d e Q J sb rx ry px py q
  cases py with
  | @lst a0 vs0 ds0 h p =>
    obtain ⟨as, r1⟩ := px.reads J sb rx
    obtain ⟨bs, r2⟩ := (AR.lst h p).reads J sb ry
    have hq : d.depth ≤ 64 ∧ Q (.val (.bool (inD d ds0))) := by cases d <;> exact q
    exact SeqAt.in_list_reads r2 r1 (AR.lst (I := I) (H := H) h p).canLay px.canLay (room_in_shaped (shaped_of px.canLay hq.1) hu) ⟨.bl _, H, J, rfl, .val sb (.bl _) hq.2⟩
  | @tup a0 vs0 ds0 h p =>
    obtain ⟨as, r1⟩ := px.reads J sb rx
    obtain ⟨bs, r2⟩ := (AR.tup h p).reads J sb ry
    have hq : d.depth ≤ 64 ∧ Q (.val (.bool (inD d ds0))) := by cases d <;> exact q
    exact SeqAt.in_tuple_reads r2 r1 (AR.tup (H := H) h p).canLay px.canLay (room_in_shaped (shaped_of px.canLay hq.1) hu) ⟨.bl _, H, J, rfl, .val sb (.bl _) hq.2⟩
  | str b _ _ =>
    cases px with
    | str a _ _ => exact op_in_str pins s σ H _ _ v u _ J rx ry ⟨a, b, rfl, rfl, .val sb (.bl _) q⟩
    | _ => exact q.elim
  | _ => cases px <;> exact q.elim
theorem o_notIn (hu : X.A.units + 65 < cLine) : Op2 X (compareOp .NotIn) rNotIn := by
  intro pins s σ H I x y v u d e Q J sb rx ry px py q
  cases py with
  | @lst a0 vs0 ds0 h p =>
    obtain ⟨as, r1⟩ := px.reads J sb rx
    obtain ⟨bs, r2⟩ := (AR.lst h p).reads J sb ry
    have hq : d.depth ≤ 64 ∧ Q (.val (.bool (!inD d ds0))) := by cases d <;> exact q
    exact SeqAt.notIn_list_reads r2 r1 (AR.lst (I := I) (H := H) h p).canLay px.canLay (room_in_shaped (shaped_of px.canLay hq.1) hu) ⟨.bl _, H, J, rfl, .val sb (.bl _) hq.2⟩
  | @tup a0 vs0 ds0 h p =>
    obtain ⟨as, r1⟩ := px.reads J sb rx
    obtain ⟨bs, r2⟩ := (AR.tup h p).reads J sb ry
    have hq : d.depth ≤ 64 ∧ Q (.val (.bool (!inD d ds0))) := by cases d <;> exact q
    exact SeqAt.notIn_tuple_reads r2 r1 (AR.tup (H := H) h p).canLay px.canLay (room_in_shaped (shaped_of px.canLay hq.1) hu) ⟨.bl _, H, J, rfl, .val sb (.bl _) hq.2⟩
  | str b _ _ =>
    cases px with
    | str a _ _ => exact L2.op_notIn_str pins s σ H _ _ v u _ J rx ry ⟨a, b, rfl, rfl, .val sb (.bl _) q⟩
    | _ => exact q.elim
  | _ => cases px <;> exact q.elim
def isNo : PyData → Bool
  | .none => true
  | _ => false
def rIs : R2s := fun d e Q => e = .none ∧ Q (.val (.bool (isNo d)))
def rIsNot : R2s := fun d e Q => e = .none ∧ Q (.val (.bool (!isNo d)))
theorem AR.isNo {K : PySem.W.Frag} {I H : Hp} {v : V} {d : PyData} (p : AR K I H v d) : decide (v = .non) = isNo d := by
  cases p <;> rfl
theorem o_is : Op2 X (compareOp .Is) rIs := by
  intro pins s σ H I x y v u d e Q J sb rx ry px py q
  obtain ⟨rfl, q⟩ := q
  cases py
  exact op_isN pins s σ H x _ v u _ J rx ry ⟨rfl, by rw [px.isNo]; exact .val sb (.bl _) q⟩
theorem o_isNot : Op2 X (compareOp .IsNot) rIsNot := by
  intro pins s σ H I x y v u d e Q J sb rx ry px py q
  obtain ⟨rfl, q⟩ := q
  cases py
  exact op_notN pins s σ H x _ v u _ J rx ry ⟨rfl, by rw [px.isNo]; exact .val sb (.bl _) q⟩

/-! ### truth -/
def tru : PyData → Bool
  | .none => false
  | .bool b => b
  | .int i => i != 0
  | .str x => (x.length : Int) != 0
  | .list xs => !xs.isEmpty
  | .tuple xs => !xs.isEmpty
  | .dict xs => !xs.isEmpty
theorem PRs.isEmpty {K : PySem.W.Frag} {I : Hp} {vs : List V} {ds : List PyData} (p : PRs K I vs ds) : vs.isEmpty = ds.isEmpty := by
  cases p <;> rfl
theorem AR.tru {K : PySem.W.Frag} {I H : Hp} {v : V} {d : PyData} (sb : Sub I H) (p : AR K I H v d) : TruV K v H (tru d) := by
  cases p with
  | non => rfl
  | bl b => rfl
  | int i => rfl
  | str x _ z => exact ⟨z, rfl⟩
  | tup h p => exact .inr (.inl ⟨_, SqT.sub sb h, by rw [p.isEmpty]; rfl⟩)
  | lst h p => exact .inl ⟨_, SqL.of h, by rw [p.isEmpty]; rfl⟩

/-! ### items and slices -/
def rIx : R2s
  | .list xs, .int i, Q => need (atI xs i) fun d => Q (.val d)
  | .tuple xs, .int i, Q => need (atI xs i) fun d => Q (.val d)
  | .str x, .int i, Q => need (atI x.cps.toList i) fun c => Q (.val (.str ⟨#[c]⟩))
  | _, _, _ => False
theorem atI_rel {K : PySem.W.Frag} {I : Hp} {vs : List V} {ds : List PyData} {i : Int} {d : PyData} (p : PRs K I vs ds) (h : atI ds i = some d) : ∃ v, atI vs i = some v ∧ PR K I v d := by
  unfold atI at h ⊢
  rw [p.length]
  cases e : ixN ds.length i with
  | none =>
    rw [e] at h
    cases h
  | some j =>
    rw [e] at h
    obtain ⟨v, h1, h2⟩ := p.get h
    exact ⟨v, h1, h2⟩
theorem strOk_at {x : Str} {i : Int} {c : Nat} (h : PyData.strOk x = true) (e : atI x.cps.toList i = some c) : PyData.strOk ⟨#[c]⟩ = true := by
  obtain ⟨j, _, h2, _⟩ := atI_get e
  have hm : c ∈ x.cps := by
    have := List.mem_of_getElem? h2
    simpa using this
  have := (Array.all_eq_true_iff_forall_mem.mp h) c hm
  show (#[c] : Array Nat).all _ = true
  simpa using this
theorem sizeLine_pos : 1 ≤ sizeLine := by rw [sizeLine_eq]; decide
/-- a[b] -/
def IxOp (X : Cx) (r : R2s) : Prop :=
  ∀ (value slice : Expr) (pins : List (Addr × Obj)) (s : Shared) (σ : L2.St) (H I : Hp) (x y : V) (v u : Value) (d e : PyData) (Q : S → Prop), Inv X pins σ H s → Sub I H → RelV x v → RelV y u → AR X.K I H x d → AR X.K I H y e → r d e Q → PlainIx slice →
    wpAny (model X.prog X.w) X.A (subscriptTail value slice v u) (EP X pins σ (VP X I H Q)) X.xe s
theorem o_ix : IxOp X rIx := by
  intro value slice pins s σ H I x y v u d e Q J sb rx ry px py q hs
  cases px with
  | lst h p =>
    cases py with
    | int i =>
      obtain ⟨d, e, q⟩ := need_some q
      obtain ⟨w, h1, h2⟩ := atI_rel p e
      exact ix_list value slice pins s σ H _ _ v u _ J rx ry ⟨_, _, i, w, rfl, rfl, SqL.of h, h1, .val sb h2 q⟩ (hs _ _)
    | _ => exact q.elim
  | tup h p =>
    cases py with
    | int i =>
      obtain ⟨d, e, q⟩ := need_some q
      obtain ⟨w, h1, h2⟩ := atI_rel p e
      exact ix_tup value slice pins s σ H _ _ v u _ J rx ry ⟨_, _, i, w, rfl, rfl, SqT.sub sb h, h1, .val sb h2 q⟩ (hs _ _)
    | _ => exact q.elim
  | str a ha za =>
    cases py with
    | int i =>
      obtain ⟨c, e, q⟩ := need_some q
      exact ix_str value slice pins s σ H _ _ v u _ J rx ry ⟨a, i, c, rfl, rfl, za, e, .val sb (.str _ (strOk_at ha e) sizeLine_pos) q⟩ (hs _ _)
    | _ => exact q.elim
  | _ => exact q.elim
def cutD {α : Type} (xs : List α) (lo hi : Option Int) : List α := (xs.drop (HT.sIx xs.length 0 lo)).take (HT.sIx xs.length xs.length hi - HT.sIx xs.length 0 lo)
theorem cut_rel {K : PySem.W.Frag} {I : Hp} {vs : List V} {ds : List PyData} (p : PRs K I vs ds) (lo hi : Option Int) : PRs K I (cutV vs lo hi) (cutD ds lo hi) := by
  unfold cutV cutD
  rw [p.length]
  exact (p.drop _).take _
theorem cut_whole {xs : List PyData} {lo hi : Option Int} (h : HT.sIx xs.length 0 lo = 0 ∧ HT.sIx xs.length xs.length hi = xs.length) : cutD xs lo hi = xs := by
  unfold cutD
  rw [h.1, h.2]
  simp
def rSl : PyData → Option Int → Option Int → (S → Prop) → Prop
  | .list xs, lo, hi, Q => Q (.lst (cutD xs lo hi))
  | .tuple xs, lo, hi, Q => Q (.val (.tuple (cutD xs lo hi)))
  | .str x, lo, hi, Q => Q (.val (.str (cutS x lo hi)))
  | _, _, _, _ => False
theorem strOk_cut {x : Str} (h : PyData.strOk x = true) (lo hi : Option Int) : PyData.strOk (cutS x lo hi) = true := by
  refine Array.all_eq_true_iff_forall_mem.mpr fun c hc => ?_
  refine (Array.all_eq_true_iff_forall_mem.mp h) c ?_
  unfold cutS at hc
  have hc' : c ∈ (x.cps.toList.drop (HT.sIx x.length 0 lo)).take (HT.sIx x.length x.length hi - HT.sIx x.length 0 lo) := by simpa using hc
  have := List.mem_of_mem_drop (List.mem_of_mem_take hc')
  simpa using this
def SlOp (X : Cx) (r : PyData → Option Int → Option Int → (S → Prop) → Prop) : Prop :=
  ∀ (I : Hp) (Q : S → Prop) (d : PyData) (lo hi : Option Int), r d lo hi Q → ∀ (x : V) (H : Hp), Sub I H → AR X.K I H x d → ∃ r2, SlR X r2 ∧ r2 x lo hi H (VP X I H Q)
theorem o_sl : SlOp X rSl := by
  intro I Q d lo hi q x H sb px
  cases px with
  | lst h p => exact ⟨_, sl_list, _, _, rfl, SqL.of h, fun a ha => .newLst sb ha (cut_rel p lo hi) q⟩
  | tup h p =>
    refine ⟨_, sl_tupA, _, _, rfl, SqT.sub sb h, fun e => ?_, fun _ a ha => .newTup sb ha (cut_rel p lo hi) q⟩
    rw [p.length] at e
    refine .val sb (.tup h p) ?_
    have q' : Q (.val (.tuple (cutD _ lo hi))) := q
    rw [cut_whole e] at q'
    exact q'
  | str a ha za => exact ⟨_, sl_str, a, rfl, za, .val sb (.str _ (strOk_cut ha lo hi) (Nat.le_trans (cutS_length a lo hi) za)) q⟩
  | _ => exact (show False from q).elim
end
end SV
/-! SvD: rules of expressions. -/
namespace SV
open PySem PySem.Spec PyProof.Rows L2

/-- by a bool -/
def ifb (k : Bool) (A B : Prop) : Prop := match k with
  | true => A
  | false => B
theorem ifb_of {k : Bool} {A B : Prop} (h1 : k = true → A) (h2 : k = false → B) : ifb k A B := by
  cases k with
  | true => exact h1 rfl
  | false => exact h2 rfl
theorem ifb_t {k : Bool} {A B : Prop} (e : k = true) (h : A) : ifb k A B := by subst e; exact h
theorem ifb_f {k : Bool} {A B : Prop} (e : k = false) (h : B) : ifb k A B := by subst e; exact h
theorem ifb_dec {p : Prop} [Decidable p] {A B : Prop} (h1 : p → A) (h2 : ¬ p → B) : ifb (decide p) A B :=
  ifb_of (fun e => h1 (of_decide_eq_true e)) fun e => h2 (of_decide_eq_false e)

section
variable {X : Cx} {ar : Nat → Option V} {a b c e : Expr} {b1 b2 b3 m1 m2 m3 : Bool} {ta tb tc : TEs} {pos : Pos}

theorem TX.upd {I H I1 H1 : Hp} {F F1 : Nat → List Addr} {o1 : Addr → Prop} {ES : XS} (t : TX X ar I H (own F) ES) (a : Evo I H (own F) I1 H1 o1) (h : ∀ c, own F1 c → o1 c) : TX X ar I1 H1 (own F1) ES := t.go a h

/-! ### names, constants -/
/-- a name that holds pure data -/
def sVar (i : Nat) : TEs := fun σs Q _ => match gets σs i with
  | some (.val d) => Q (.val d) σs
  | _ => False
/-- a name, only looked at -/
def sView (i : Nat) : TEs := fun σs Q _ => nd (gets σs i) fun r => Q r σs
/-- a name whose own list is never changed from here on -/
def sFrz (i : Nat) : TEs := fun σs Q _ => nd (gets σs i) fun r => nd r.toD fun d => Q (.val d) (sets σs i (some (.val d)))
/-- a name that is given away -/
def sMov (i : Nat) : TEs := fun σs Q _ => nd (gets σs i) fun r => Q r (sets σs i none)
def sC (d : PyData) : TEs := fun σs Q _ => Q (.val d) σs

theorem eval_name {i : Nat} {x : Str} {pins : List (Addr × Obj)} {s : Shared} {σ : L2.St} {H : Hp} {v : V} {P : Value → Shared → Prop} (J : Inv X pins σ H s) (hN : X.N[i]? = some x) (hv : Vis X.env.scope x) (e1 : σ[i]? = some (some v))
    (hd : (x == ("__debug__" : Str)) = false) (hcd : (x == ("__classdict__" : Str)) = false) (h : ∀ u s', Inv X pins σ H s' → RelV v u → P u s') : wpAny (model X.prog X.w) X.A (eval (.Name x pos) X.env) P X.xe s :=
  thn ((pe_var (X := X) (pos := pos) hN hv hd hcd).run pins s σ H (fun w H' => w = v ∧ H' = H) J ⟨v, e1, rfl, rfl⟩) fun u s' ⟨w, H', J', r, ew, eH⟩ => by
    subst ew
    rw [eH] at J'
    exact h u s' J' r
variable {i : Nat} {x : Str}
theorem je_var (i : Nat) (hN : X.N[i]? = some x := by rfl) (hv : Vis X.env.scope x := by first | exact Or.inl rfl | exact Or.inr (Or.inl rfl) | exact Or.inr (Or.inr rfl)) (hd : (x == ("__debug__" : Str)) = false := by decide)
    (hcd : (x == ("__classdict__" : Str)) = false := by decide) : JE X ar true true (.Name x pos) (sVar i) := by
  refine ⟨fun pins s σ I H F σs Q ES J st tx q => ?_⟩
  unfold sVar at q
  cases e : gets σs i with
  | none => rw [e] at q; exact q.elim
  | some r =>
    obtain ⟨v, e1, sr⟩ := st.rep i r e
    rw [e] at q
    cases r with
    | val d => exact eval_name J hN hv e1 hd hcd fun u s' J' rv => RP.val J' st sr.val_inv.2 rv q
    | _ => exact q.elim
theorem je_view (i : Nat) (hN : X.N[i]? = some x := by rfl) (hv : Vis X.env.scope x := by first | exact Or.inl rfl | exact Or.inr (Or.inl rfl) | exact Or.inr (Or.inr rfl)) (hd : (x == ("__debug__" : Str)) = false := by decide)
    (hcd : (x == ("__classdict__" : Str)) = false := by decide) : JE X ar true false (.Name x pos) (sView i) := by
  refine ⟨fun pins s σ I H F σs Q ES J st tx q => ?_⟩
  obtain ⟨r, e, q⟩ := nd_some q
  obtain ⟨v, e1, sr⟩ := st.rep i r e
  refine eval_name J hN hv e1 hd hcd fun u s' J' rv => ?_
  refine ⟨v, r, F i, I, H, F, σs, ⟨J', ⟨.refl I, fun _ _ h _ => h, fun a m => ?_, fun _ _ h => .inl h⟩, st, sr, (fun z => Bool.noConfusion z), fun a m => st.notI i a m, fun _ => ⟨rfl, rfl, fun _ _ h => h⟩⟩, rv, q⟩
  rcases m with m | m
  · exact .inl ⟨i, m⟩
  · exact .inl m
theorem je_frz (i : Nat) (hN : X.N[i]? = some x := by rfl) (hv : Vis X.env.scope x := by first | exact Or.inl rfl | exact Or.inr (Or.inl rfl) | exact Or.inr (Or.inr rfl)) (hd : (x == ("__debug__" : Str)) = false := by decide)
    (hcd : (x == ("__classdict__" : Str)) = false := by decide) : JE X ar false true (.Name x pos) (sFrz i) := by
  refine ⟨fun pins s σ I H F σs Q ES J st tx q => ?_⟩
  obtain ⟨r, e, q⟩ := nd_some q
  obtain ⟨d, ed, q⟩ := nd_some q
  obtain ⟨v, e1, p, st', ev⟩ := st.freeze e ed
  refine eval_name J hN hv e1 hd hcd fun u s' J' rv => ?_
  exact ⟨v, .val d, [], _, H, _, _, ⟨J', ⟨ev.up, ev.fr, fun a m => by rcases m with m | m; cases m; exact ev.nw a m, ev.ni⟩, st', .val p, fun _ a m => absurd m (by simp), fun a m => absurd m (by simp), (fun z => Bool.noConfusion z)⟩, rv, q⟩
theorem je_mov (i : Nat) (hN : X.N[i]? = some x := by rfl) (hv : Vis X.env.scope x := by first | exact Or.inl rfl | exact Or.inr (Or.inl rfl) | exact Or.inr (Or.inr rfl)) (hd : (x == ("__debug__" : Str)) = false := by decide)
    (hcd : (x == ("__classdict__" : Str)) = false := by decide) : JE X ar false true (.Name x pos) (sMov i) := by
  refine ⟨fun pins s σ I H F σs Q ES J st tx q => ?_⟩
  obtain ⟨r, e, q⟩ := nd_some q
  obtain ⟨v, e1, sr⟩ := st.rep i r e
  refine eval_name J hN hv e1 hd hcd fun u s' J' rv => ?_
  refine ⟨v, r, F i, I, H, drop1 F i, _, ⟨J', ⟨.refl I, fun _ _ h _ => h, fun a m => ?_, fun _ _ h => .inl h⟩, st.forget i, sr, fun _ a m z => drop1_not st z m, fun a m => st.notI i a m, (fun z => Bool.noConfusion z)⟩, rv, q⟩
  rcases m with m | m
  · exact .inl ⟨i, m⟩
  · exact .inl (own_of_drop1 m)
/-- an expression of the layer below whose value is a constant -/
theorem je_const {v : V} {d : PyData} (h : PE X e (tC v)) (p : ∀ I, PR X.K I v d) : JE X ar true true e (sC d) := by
  refine ⟨fun pins s σ I H F σs Q ES J st tx q => ?_⟩
  refine thn (h.run pins s σ H (fun w H' => w = v ∧ H' = H) J ⟨rfl, rfl⟩) fun u s' ⟨w, H', J', r, ew, eH⟩ => ?_
  subst ew
  rw [eH] at J'
  exact RP.val J' st (p I) r q
theorem je_int {i j pos} : JE X ar true true (.Constant (.int i) j pos) (sC (.int i)) := je_const pe_int fun _ => .int _
theorem je_bl {i j pos} : JE X ar true true (.Constant (.bool i) j pos) (sC (.bool i)) := je_const pe_bl fun _ => .bl _
theorem je_non {j pos} : JE X ar true true (.Constant .none j pos) (sC .none) := je_const pe_non fun _ => .non
theorem je_str {x : Str} {j pos} (h1 : PyData.strOk x = true := by decide +kernel) (h2 : x.length ≤ sizeLine := by decide +kernel) : JE X ar true true (.Constant (.str x) j pos) (sC (.str x)) := je_const pe_str fun _ => .str _ h1 h2
/-- a module's constant of pure data -/
theorem je_glob {v : V} {u : Value} {d : PyData} (hg : Gl X x) (hm : X.mg x = some u) (r : RelV v u) (p : ∀ I, PR X.K I v d) (hd : (x == ("__debug__" : Str)) = false := by decide) : JE X ar true true (.Name x pos) (sC d) :=
  je_const (pe_glob hg hm r hd) p

/-! ### operators -/
def s2 (r : R2s) (ta tb : TEs) : TEs := fun σs Q ES => ta σs (fun x σ1 => nd x.toD fun dx => tb σ1 (fun y σ2 => nd y.toD fun dy => r dx dy fun z => Q z σ2) ES) ES
def s1 (r : R1s) (ta : TEs) : TEs := fun σs Q ES => ta σs (fun x σ1 => nd x.toD fun dx => r dx fun z => Q z σ1) ES
theorem two {f : Value → Value → Sem Value} {r : R2s} (ho : Op2 X f r) (ha : JE X ar b1 m1 a ta) (hb : JE X ar b2 m2 b tb) (hm : m1 = true ∨ b2 = true) {pins : List (Addr × Obj)} {s : Shared} {σ : L2.St} {I H : Hp} {F : Nat → List Addr} {σs : SSt} {Q : KS} {ES : XS}
    (J : Inv X pins σ H s) (st : StR X.K ar I H σ σs F) (tx : TX X ar I H (own F) ES) (q : s2 r ta tb σs Q ES) :
    wpAny (model X.prog X.w) X.A (eval a X.env) (fun v s₁ => wpAny (model X.prog X.w) X.A (eval b X.env) (fun u s₂ => wpAny (model X.prog X.w) X.A (f v u) (RP X ar pins σ (b1 && b2) true I H F σs Q) X.xe s₂) X.xe s₁) X.xe s := by
  refine thn (ha.run pins s σ I H F σs _ ES J st tx q) fun v s1 ⟨x, rx, R1, I1, H1, F1, σ1, h1, r1, q1⟩ => ?_
  obtain ⟨dx, ex, q1⟩ := nd_some q1
  refine thn (hb.run pins s1 σ I1 H1 F1 σ1 _ ES h1.inv h1.st (tx.go h1.base.evo fun _ z => z) q1) fun u s2 ⟨y, ry, R2, I2, H2, F2, σ2, h2, r2, q2⟩ => ?_
  obtain ⟨dy, ey, q2⟩ := nd_some q2
  obtain ⟨sx, _, _, _⟩ := h1.over h2.base hm
  exact thn (ho pins s2 σ H2 I2 x y v u dx dy _ h2.inv h2.st.sub r1 r2 (sx.ar h2.st.sub ex) (h2.sr.ar h2.st.sub ey) q2) fun w s3 h => RP.of_vp (h1.base.then h2.base) h
theorem je_op2 {op : Operator} {r : R2s} (ho : Op2 X (binaryOp op) r) (ha : JE X ar b1 m1 a ta) (hb : JE X ar b2 m2 b tb) (hm : m1 = true ∨ b2 = true := by first | exact Or.inl rfl | exact Or.inr rfl) : JE X ar (b1 && b2) true (.BinOp a op b pos) (s2 r ta tb) :=
  ⟨fun pins s σ I H F σs Q ES J st tx q => wpAny_BinOp (two ho ha hb hm J st tx q)⟩
theorem je_un {op : UnaryOp} {r : R1s} (ho : Op1 X (unaryOp op) r) (ha : JE X ar b1 m1 a ta) : JE X ar b1 true (.UnaryOp op a pos) (s1 r ta) := by
  refine ⟨fun pins s σ I H F σs Q ES J st tx q => ?_⟩
  refine UnaryOp_ (thn (ha.run pins s σ I H F σs _ ES J st tx q) fun v s1 ⟨x, rx, R1, I1, H1, F1, σ1, h1, r1, q1⟩ => ?_)
  obtain ⟨dx, ex, q1⟩ := nd_some q1
  exact thn (ho pins s1 σ H1 I1 x v dx _ h1.inv h1.st.sub r1 (h1.sr.ar h1.st.sub ex) q1) fun w s3 h => RP.of_vp h1.base h
theorem je_cmp {op : CmpOp} {r : R2s} (ho : Op2 X (compareOp op) r) (ha : JE X ar b1 m1 a ta) (hb : JE X ar b2 m2 b tb) (hk : behindInMarks op b = false := by first | exact nobehind _ (by decide) (by decide) | rfl | with_unfolding_all rfl)
    (hm : m1 = true ∨ b2 = true := by first | exact Or.inl rfl | exact Or.inr rfl) : JE X ar (b1 && b2) true (.Compare a [op] [b] pos) (s2 r ta tb) :=
  ⟨fun pins s σ I H F σs Q ES J st tx q => wpAny_Compare1 (two ho ha hb hm J st tx q) hk⟩

/-- a value as a test -/
def tT (t : TEs) : TTs := fun σs Q ES => t σs (fun r σ1 => nd r.toD fun d => Q (tru d) σ1) ES
theorem tru_run {pins : List (Addr × Obj)} {s : Shared} {σ : L2.St} {I H : Hp} {x : V} {v : Value} {d : PyData} {P : Bool → Shared → Prop} (J : Inv X pins σ H s) (sb : Sub I H) (rx : RelV x v) (h : AR X.K I H x d) (q : ∀ s', Inv X pins σ H s' → P (tru d) s') :
    wpAny (model X.prog X.w) X.A (truthy v) P X.xe s :=
  thn (tru_ok pins s σ H x v (fun k H' => k = tru d ∧ H' = H) J rx ⟨_, h.tru sb, rfl, rfl⟩) fun k s' ⟨H', J', ek, eH⟩ => by
    subst ek
    rw [eH] at J'
    exact q s' J'
theorem jt_val {e : Expr} {t : TEs} (h : JE X ar b1 m1 e t) (he : ∀ whole, isTrue e X.env whole = (do let v ← whole; standAt e.pos; holding [v] (truthy v)) := by intro _; rfl) : JT X ar b1 e (tT t) := by
  refine ⟨fun pins s σ I H F σs Q ES J st tx q => ?_⟩
  refine isTrue_plain (thn (h.run pins s σ I H F σs _ ES J st tx q) fun v s1 ⟨x, rx, R1, I1, H1, F1, σ1, h1, r1, q1⟩ => ?_) (he _)
  obtain ⟨d, ex, q1⟩ := nd_some q1
  refine tru_run h1.inv h1.st.sub r1 (h1.sr.ar h1.st.sub ex) fun s' J' => ⟨I1, H1, F1, σ1, ⟨J', h1.base.evo, h1.st, h1.pu⟩, q1⟩
theorem RP.tru {pins : List (Addr × Obj)} {s : Shared} {σ : L2.St} {I H : Hp} {F : Nat → List Addr} {σs : SSt} {Q : Bool → SSt → Prop} {c : Value} (h : RP X ar pins σ b1 m1 I H F σs (fun r σ1 => nd r.toD fun d => Q (tru d) σ1) c s) :
    wpAny (model X.prog X.w) X.A (truthy c) (BP X ar pins σ b1 I H F σs Q) X.xe s := by
  obtain ⟨x, rx, R1, I1, H1, F1, σ1, h1, r1, q1⟩ := h
  obtain ⟨d, ex, q1⟩ := nd_some q1
  exact tru_run h1.inv h1.st.sub r1 (h1.sr.ar h1.st.sub ex) fun s' J' => ⟨I1, H1, F1, σ1, ⟨J', h1.base.evo, h1.st, h1.pu⟩, q1⟩
theorem jt_cmp {op : CmpOp} {r : R2s} (ho : Op2 X (compareOp op) r) (ha : JE X ar b1 m1 a ta) (hb : JE X ar b2 m2 b tb) (hk : behindInMarks op b = false := by first | exact nobehind _ (by decide) (by decide) | rfl | with_unfolding_all rfl)
    (hm : m1 = true ∨ b2 = true := by first | exact Or.inl rfl | exact Or.inr rfl) : JT X ar (b1 && b2) (.Compare a [op] [b] pos) (tT (s2 r ta tb)) := by
  refine ⟨fun pins s σ I H F σs Q ES J st tx q => ?_⟩
  exact wpAny_isTrue_Compare1 (thn (two ho ha hb hm J st tx q) fun v s1 h1 => thn h1 fun u s2 h2 => thn h2 fun c s3 h3 => RP.tru h3) hk

/-! ### a chain of two comparisons -/
def sChain (r r' : R2s) (ta tb tc : TEs) : TEs := fun σs Q ES => ta σs (fun x σ1 => nd x.toD fun dx => tb σ1 (fun y σ2 => nd y.toD fun dy => r dx dy fun z => match z with
  | .val (.bool k) => ifb k (tc σ2 (fun w σ3 => nd w.toD fun dw => r' dy dw fun z' => Q z' σ3) ES) (Q (.val (.bool false)) σ2)
  | _ => False) ES) ES
theorem chain3 {f f' : Value → Value → Sem Value} {r r' : R2s} (ho : Op2 X f r) (ho' : Op2 X f' r') (ha : JE X ar b1 m1 a ta) (hb : JE X ar b2 m2 b tb) (hc : JE X ar b3 m3 c tc) (hm : m1 = true ∨ b2 = true) (hm2 : m2 = true ∨ b3 = true)
    {pins : List (Addr × Obj)} {s : Shared} {σ : L2.St} {I H : Hp} {F : Nat → List Addr} {σs : SSt} {Q : KS} {ES : XS} {P : Value → Value → Value → Shared → Prop}
    (J : Inv X pins σ H s) (st : StR X.K ar I H σ σs F) (tx : TX X ar I H (own F) ES) (q : sChain r r' ta tb tc σs Q ES)
    (no : ∀ v u s', RP X ar pins σ (b1 && b2 && b3) true I H F σs Q (.bool false) s' → P v u (.bool false) s')
    (yes : ∀ v u s', wpAny (model X.prog X.w) X.A (eval c X.env) (fun w s3 => wpAny (model X.prog X.w) X.A (f' u w) (RP X ar pins σ (b1 && b2 && b3) true I H F σs Q) X.xe s3) X.xe s' → P v u (.bool true) s') :
    wpAny (model X.prog X.w) X.A (eval a X.env) (fun v s₁ => wpAny (model X.prog X.w) X.A (eval b X.env) (fun u s₂ => wpAny (model X.prog X.w) X.A (f v u) (fun z s3 => P v u z s3) X.xe s₂) X.xe s₁) X.xe s := by
  refine thn (ha.run pins s σ I H F σs _ ES J st tx q) fun v s1 ⟨x, rx, R1, I1, H1, F1, σ1, h1, r1, q1⟩ => ?_
  obtain ⟨dx, ex, q1⟩ := nd_some q1
  refine thn (hb.run pins s1 σ I1 H1 F1 σ1 _ ES h1.inv h1.st (tx.go h1.base.evo fun _ z => z) q1) fun u s2 ⟨y, ry, R2, I2, H2, F2, σ2, h2, r2, q2⟩ => ?_
  obtain ⟨dy, ey, q2⟩ := nd_some q2
  obtain ⟨sx, _, _, _⟩ := h1.over h2.base hm
  have base := h1.base.then h2.base
  refine thn (ho pins s2 σ H2 I2 x y v u dx dy _ h2.inv h2.st.sub r1 r2 (sx.ar h2.st.sub ex) (h2.sr.ar h2.st.sub ey) q2) fun z s3 h3 => ?_
  obtain ⟨vz, H3, J3, rz, r3, R3, I3, d3, q3⟩ := h3
  have h3 : RP X ar pins σ (b1 && b2) true I H F σs (fun z' σ' => z' = r3 ∧ σ' = σ2) z s3 := RP.of_vp base ⟨vz, H3, J3, rz, r3, R3, I3, d3, rfl, rfl⟩
  have h4 : RP X ar pins σ b2 true I1 H1 F1 σ1 (fun z' σ' => z' = r3 ∧ σ' = σ2) z s3 := RP.of_vp h2.base ⟨vz, H3, J3, rz, r3, R3, I3, d3, rfl, rfl⟩
  have h5 : RP X ar pins σ true true I2 H2 F2 σ2 (fun z' σ' => z' = r3 ∧ σ' = σ2) z s3 := RP.of_vp (BPd.refl h2.inv h2.st) ⟨vz, H3, J3, rz, r3, R3, I3, d3, rfl, rfl⟩
  cases r3 with
  | val dz =>
    cases dz with
    | bool k =>
      have rb : z = .bool k := by
        cases d3.sr with
        | val p => cases p; exact rz
      subst rb
      obtain ⟨_, _, R5, I5, H5, F5, σ5, d5, _, e5, e6⟩ := h5
      subst e5
      subst e6
      have b5 := base.then d5.base
      cases k with
      | false =>
        refine no v u s3 ?_
        obtain ⟨v6, r6, R6, I6, H6, F6, σ6, d6, rv6, q6⟩ := (RP.val (b := b3) (m := true) (Q := Q) d5.inv d5.st (.bl false) (rfl : RelV (.bl false) (.bool false)) q3)
        have d7 := b5.thenR d6
        rw [Bool.and_true] at d7
        exact ⟨v6, r6, R6, I6, H6, F6, σ6, d7, rv6, q6⟩
      | true =>
        refine yes v u s3 ?_
        refine thn (hc.run pins s3 σ I5 H5 F5 _ _ ES d5.inv d5.st (tx.go b5.evo fun _ z => z) q3) fun w s4 ⟨y4, r4, R4, I4, H4, F4, σ4, h4', rw4, q4⟩ => ?_
        obtain ⟨dw, ew, q4⟩ := nd_some q4
        have hy := h2.over (d5.base.then h4'.base) (by rcases hm2 with z | z <;> simp [z])
        refine thn (ho' pins s4 σ H4 I4 y y4 u w dy dw _ h4'.inv h4'.st.sub r2 rw4 (hy.1.ar h4'.st.sub ey) (h4'.sr.ar h4'.st.sub ew) q4) fun w' s5 h6 => ?_
        have := RP.of_vp (b5.then h4'.base) h6
        rw [Bool.and_true] at this
        exact this
    | _ => exact q3.elim
  | _ => exact q3.elim
end
end SV
/-! SvE: rules of expressions, further: chains, and, or, not, if; displays; items, slices; calls of built-ins. -/
namespace SV
open PySem PySem.Spec PyProof.Rows L2

section
variable {X : Cx} {ar : Nat → Option V} {a b c e : Expr} {b1 b2 b3 m1 m2 m3 : Bool} {ta tb tc : TEs} {pos : Pos}
theorem je_chain {op op' : CmpOp} {r r' : R2s} (ho : Op2 X (compareOp op) r) (ho' : Op2 X (compareOp op') r') (ha : JE X ar b1 m1 a ta) (hb : JE X ar b2 m2 b tb) (hc : JE X ar b3 m3 c tc)
    (hm : m1 = true ∨ b2 = true := by first | exact Or.inl rfl | exact Or.inr rfl) (hm2 : m2 = true ∨ b3 = true := by first | exact Or.inl rfl | exact Or.inr rfl) (hk : lastMarks [op, op'] [b, c] = false := by with_unfolding_all rfl) :
    JE X ar (b1 && b2 && b3) true (.Compare a [op, op'] [b, c] pos) (sChain r r' ta tb tc) := by
  refine ⟨fun pins s σ I H F σs Q ES J st tx q => ?_⟩
  refine Compare_chain (thn (chain3 (P := fun v u z s3 => wpAny (model X.prog X.w) X.A (truthy z) (fun t s₃ => if t then wpAny (model X.prog X.w) X.A (compareChain pos u [op'] [eval c X.env]) (RP X ar pins σ (b1 && b2 && b3) true I H F σs Q) X.xe s₃ else RP X ar pins σ (b1 && b2 && b3) true I H F σs Q z s₃) X.xe s3) ho ho' ha hb hc hm hm2 J st tx q (fun v u s' h => ?_) (fun v u s' h => ?_)) fun v s1 h => chain_link h) hk
  · exact wpAny_truthy_bool (ite_ff h)
  · exact wpAny_truthy_bool (ite_tt (chain_last h))
theorem jt_chain {op op' : CmpOp} {r r' : R2s} (ho : Op2 X (compareOp op) r) (ho' : Op2 X (compareOp op') r') (ha : JE X ar b1 m1 a ta) (hb : JE X ar b2 m2 b tb) (hc : JE X ar b3 m3 c tc)
    (hm : m1 = true ∨ b2 = true := by first | exact Or.inl rfl | exact Or.inr rfl) (hm2 : m2 = true ∨ b3 = true := by first | exact Or.inl rfl | exact Or.inr rfl) (hk : lastMarks [op, op'] [b, c] = false := by with_unfolding_all rfl) :
    JT X ar (b1 && b2 && b3) (.Compare a [op, op'] [b, c] pos) (tT (sChain r r' ta tb tc)) := by
  refine ⟨fun pins s σ I H F σs Q ES J st tx q => ?_⟩
  refine isTrue_chain (thn (chain3 (P := fun v u z s3 => wpAny (model X.prog X.w) X.A (truthy z) (fun t s₃ => if t then wpAny (model X.prog X.w) X.A (testChain pos u [op'] [eval c X.env]) (BP X ar pins σ (b1 && b2 && b3) I H F σs Q) X.xe s₃ else BP X ar pins σ (b1 && b2 && b3) I H F σs Q false s₃) X.xe s3) ho ho' ha hb hc hm hm2 J st tx q (fun v u s' h => ?_) (fun v u s' h => ?_)) fun v s1 h => test_link h) hk
  · refine wpAny_truthy_bool (ite_ff ?_)
    obtain ⟨v6, r6, R6, I6, H6, F6, σ6, d6, rv6, q6⟩ := h
    obtain ⟨d, ex, q6⟩ := nd_some q6
    have : tru d = false := by
      cases d6.sr with
      | val p =>
        cases ex
        cases p with
        | bl k => cases rv6; rfl
        | int => obtain ⟨_, z⟩ := rv6; cases z
        | str => obtain ⟨_, z⟩ := rv6; cases z
        | _ => cases rv6
      | lst => cases rv6
      | scr => cases ex
      | ins => cases ex
    rw [this] at q6
    exact ⟨I6, H6, F6, σ6, d6.base, q6⟩
  · exact wpAny_truthy_bool (ite_tt (test_last (thn h fun w s2 h2 => thn h2 fun z s3 h3 => RP.tru h3)))

/-! ### and, or, not as tests -/
def tAnd (t u : TTs) : TTs := fun σs Q ES => t σs (fun k σ1 => ifb k (u σ1 Q ES) (Q false σ1)) ES
def tOr (t u : TTs) : TTs := fun σs Q ES => t σs (fun k σ1 => ifb k (Q true σ1) (u σ1 Q ES)) ES
def tNot (t : TTs) : TTs := fun σs Q ES => t σs (fun k σ1 => Q (!k) σ1) ES
variable {t u : TTs} {rest : List Expr}
theorem jw_and1 (ha : JT X ar b1 a t) : JW X ar b1 (.BoolOp .And [a] pos) t := by
  refine ⟨fun wh pins s σ I H F σs Q ES J st tx q => ?_⟩
  refine isTrue_and (thn (ha.run pins s σ I H F σs Q ES J st tx q) fun k s1 h => ?_)
  cases k with
  | true => exact isTrue_and_nil h
  | false => exact h
theorem jw_or1 (ha : JT X ar b1 a t) : JW X ar b1 (.BoolOp .Or [a] pos) t := by
  refine ⟨fun wh pins s σ I H F σs Q ES J st tx q => ?_⟩
  refine isTrue_or (thn (ha.run pins s σ I H F σs Q ES J st tx q) fun k s1 h => ?_)
  cases k with
  | false => exact isTrue_or_nil h
  | true => exact h
theorem BP.after {pins : List (Addr × Obj)} {σ : L2.St} {I H I1 H1 : Hp} {F F1 : Nat → List Addr} {σs σ1 : SSt} {s1 s2 : Shared} {Q : Bool → SSt → Prop} {k : Bool} (a : BPd X ar pins σ b1 I H F σs I1 H1 F1 σ1 s1) (h : BP X ar pins σ b2 I1 H1 F1 σ1 Q k s2) :
    BP X ar pins σ (b1 && b2) I H F σs Q k s2 := by
  obtain ⟨I2, H2, F2, σ2, d, q⟩ := h
  exact ⟨I2, H2, F2, σ2, a.then d, q⟩
theorem BPd.weak {pins : List (Addr × Obj)} {σ : L2.St} {I H I1 H1 : Hp} {F F1 : Nat → List Addr} {σs σ1 : SSt} {s1 : Shared} (a : BPd X ar pins σ b1 I H F σs I1 H1 F1 σ1 s1) (h : b2 = true → b1 = true) : BPd X ar pins σ b2 I H F σs I1 H1 F1 σ1 s1 :=
  ⟨a.inv, a.evo, a.st, fun e => a.pu (h e)⟩
theorem RPd.weak {pins : List (Addr × Obj)} {σ : L2.St} {I H I1 H1 : Hp} {F F1 : Nat → List Addr} {σs σ1 : SSt} {s1 : Shared} {v : V} {r : S} {R : List Addr} (a : RPd X ar pins σ b1 m1 I H F σs v r R I1 H1 F1 σ1 s1) (h : b2 = true → b1 = true) (h' : m2 = true → m1 = true) : RPd X ar pins σ b2 m2 I H F σs v r R I1 H1 F1 σ1 s1 :=
  ⟨a.inv, a.evo, a.st, a.sr, fun e => a.nf (h' e), a.nI, fun e => a.pu (h e)⟩
theorem RP.after {pins : List (Addr × Obj)} {σ : L2.St} {I H I1 H1 : Hp} {F F1 : Nat → List Addr} {σs σ1 : SSt} {s1 s2 : Shared} {Q : KS} {w : Value} (a : BPd X ar pins σ b1 I H F σs I1 H1 F1 σ1 s1) (h : RP X ar pins σ b2 m1 I1 H1 F1 σ1 Q w s2) :
    RP X ar pins σ (b1 && b2) m1 I H F σs Q w s2 := by
  obtain ⟨v, r, R, I2, H2, F2, σ2, d, rv, q⟩ := h
  exact ⟨v, r, R, I2, H2, F2, σ2, a.thenR d, rv, q⟩
theorem RP.weak {pins : List (Addr × Obj)} {σ : L2.St} {I H : Hp} {F : Nat → List Addr} {σs : SSt} {s2 : Shared} {Q : KS} {w : Value} (h : RP X ar pins σ b1 m1 I H F σs Q w s2) (h1 : b2 = true → b1 = true) (h' : m2 = true → m1 = true) : RP X ar pins σ b2 m2 I H F σs Q w s2 := by
  obtain ⟨v, r, R, I2, H2, F2, σ2, d, rv, q⟩ := h
  exact ⟨v, r, R, I2, H2, F2, σ2, d.weak h1 h', rv, q⟩
theorem jw_and (ha : JT X ar b1 a t) (hb : JW X ar b2 (.BoolOp .And (b :: rest) pos) u) : JW X ar (b1 && b2) (.BoolOp .And (a :: b :: rest) pos) (tAnd t u) := by
  refine ⟨fun wh pins s σ I H F σs Q ES J st tx q => ?_⟩
  refine isTrue_and (thn (ha.run pins s σ I H F σs _ ES J st tx q) fun k s1 ⟨I1, H1, F1, σ1, d, q1⟩ => ?_)
  cases k with
  | true => exact thn (hb.run wh pins s1 σ I1 H1 F1 σ1 Q ES d.inv d.st (tx.go d.evo fun _ z => z) q1) fun k s2 h => BP.after d h
  | false => exact ⟨I1, H1, F1, σ1, d.weak (fun z => by simp at z; exact z.1), q1⟩
theorem jw_or (ha : JT X ar b1 a t) (hb : JW X ar b2 (.BoolOp .Or (b :: rest) pos) u) : JW X ar (b1 && b2) (.BoolOp .Or (a :: b :: rest) pos) (tOr t u) := by
  refine ⟨fun wh pins s σ I H F σs Q ES J st tx q => ?_⟩
  refine isTrue_or (thn (ha.run pins s σ I H F σs _ ES J st tx q) fun k s1 ⟨I1, H1, F1, σ1, d, q1⟩ => ?_)
  cases k with
  | false => exact thn (hb.run wh pins s1 σ I1 H1 F1 σ1 Q ES d.inv d.st (tx.go d.evo fun _ z => z) q1) fun k s2 h => BP.after d h
  | true => exact ⟨I1, H1, F1, σ1, d.weak (fun z => by simp at z; exact z.1), q1⟩
theorem jt_not (ha : JT X ar b1 a t) : JT X ar b1 (.UnaryOp .Not a pos) (tNot t) := by
  refine ⟨fun pins s σ I H F σs Q ES J st tx q => ?_⟩
  exact isTrue_not (thn (ha.run pins s σ I H F σs _ ES J st tx q) fun k s1 h => h)
/-- not, as a value -/
theorem je_not (ha : JE X ar b1 m1 a ta) : JE X ar b1 true (.UnaryOp .Not a pos) (fun σs Q ES => ta σs (fun r σ1 => nd r.toD fun d => Q (.val (.bool (!tru d))) σ1) ES) := by
  refine ⟨fun pins s σ I H F σs Q ES J st tx q => ?_⟩
  refine UnaryOp_ (thn (ha.run pins s σ I H F σs _ ES J st tx q) fun v s1 ⟨x, rx, R1, I1, H1, F1, σ1, h1, r1, q1⟩ => ?_)
  obtain ⟨d, ex, q1⟩ := nd_some q1
  refine not_of (tru_run h1.inv h1.st.sub r1 (h1.sr.ar h1.st.sub ex) fun s' J' => ?_)
  exact RP.of_vp (s' := s') (⟨J', h1.base.evo, h1.st, h1.pu⟩ : BPd X ar pins σ b1 I H F σs I1 H1 F1 σ1 s') ⟨.bl _, H1, J', rfl, .val h1.st.sub (.bl _) q1⟩
/-- .. as values -/
def sAnd (ta tb : TEs) : TEs := fun σs Q ES => ta σs (fun r σ1 => nd r.toD fun d => ifb (tru d) (tb σ1 Q ES) (Q r σ1)) ES
def sOr (ta tb : TEs) : TEs := fun σs Q ES => ta σs (fun r σ1 => nd r.toD fun d => ifb (tru d) (Q r σ1) (tb σ1 Q ES)) ES
theorem je_one {op} (h : JE X ar b1 m1 a ta) : JE X ar b1 m1 (.BoolOp op [a] pos) ta := ⟨fun pins s σ I H F σs Q ES J st tx q => BoolOp_one (h.run pins s σ I H F σs Q ES J st tx q)⟩
theorem je_and (ha : JE X ar b1 m1 a ta) (hb : JE X ar b2 m2 (.BoolOp .And (b :: rest) pos) tb) : JE X ar (b1 && b2) (m1 && m2) (.BoolOp .And (a :: b :: rest) pos) (sAnd ta tb) := by
  refine ⟨fun pins s σ I H F σs Q ES J st tx q => ?_⟩
  refine BoolOp_and (thn (ha.run pins s σ I H F σs _ ES J st tx q) fun v s1 ⟨x, rx, R1, I1, H1, F1, σ1, h1, r1, q1⟩ => ?_)
  obtain ⟨d, ex, q1⟩ := nd_some q1
  refine tru_run h1.inv h1.st.sub r1 (h1.sr.ar h1.st.sub ex) fun s' J' => ?_
  have h2 : RPd X ar pins σ b1 m1 I H F σs x rx R1 I1 H1 F1 σ1 s' := ⟨J', h1.evo, h1.st, h1.sr, h1.nf, h1.nI, h1.pu⟩
  cases hd : tru d with
  | true =>
    rw [hd] at q1
    exact thn (hb.run pins s' σ I1 H1 F1 σ1 Q ES J' h2.st (tx.go h2.base.evo fun _ z => z) q1) fun w s3 h3 => (RP.after h2.base h3).weak (fun z => z) (fun z => by simp at z; exact z.2)
  | false =>
    rw [hd] at q1
    exact ⟨x, rx, R1, I1, H1, F1, σ1, h2.weak (fun z => by simp at z; exact z.1) (fun z => by simp at z; exact z.1), r1, q1⟩
theorem je_or (ha : JE X ar b1 m1 a ta) (hb : JE X ar b2 m2 (.BoolOp .Or (b :: rest) pos) tb) : JE X ar (b1 && b2) (m1 && m2) (.BoolOp .Or (a :: b :: rest) pos) (sOr ta tb) := by
  refine ⟨fun pins s σ I H F σs Q ES J st tx q => ?_⟩
  refine BoolOp_or (thn (ha.run pins s σ I H F σs _ ES J st tx q) fun v s1 ⟨x, rx, R1, I1, H1, F1, σ1, h1, r1, q1⟩ => ?_)
  obtain ⟨d, ex, q1⟩ := nd_some q1
  refine tru_run h1.inv h1.st.sub r1 (h1.sr.ar h1.st.sub ex) fun s' J' => ?_
  have h2 : RPd X ar pins σ b1 m1 I H F σs x rx R1 I1 H1 F1 σ1 s' := ⟨J', h1.evo, h1.st, h1.sr, h1.nf, h1.nI, h1.pu⟩
  cases hd : tru d with
  | false =>
    rw [hd] at q1
    exact thn (hb.run pins s' σ I1 H1 F1 σ1 Q ES J' h2.st (tx.go h2.base.evo fun _ z => z) q1) fun w s3 h3 => (RP.after h2.base h3).weak (fun z => z) (fun z => by simp at z; exact z.2)
  | true =>
    rw [hd] at q1
    exact ⟨x, rx, R1, I1, H1, F1, σ1, h2.weak (fun z => by simp at z; exact z.1) (fun z => by simp at z; exact z.1), r1, q1⟩
/-- a if t else b -/
def sIf (t : TTs) (ta tb : TEs) : TEs := fun σs Q ES => t σs (fun k σ1 => ifb k (ta σ1 Q ES) (tb σ1 Q ES)) ES
theorem je_if (hc : JT X ar b1 c t) (ha : JE X ar b2 m2 a ta) (hb : JE X ar b3 m3 b tb) : JE X ar (b1 && b2 && b3) (m2 && m3) (.IfExp c a b pos) (sIf t ta tb) := by
  refine ⟨fun pins s σ I H F σs Q ES J st tx q => ?_⟩
  refine wpAny_IfExp (thn (hc.run pins s σ I H F σs _ ES J st tx q) fun k s1 ⟨I1, H1, F1, σ1, d, q1⟩ => ?_)
  cases k with
  | true => exact thn (ha.run pins s1 σ I1 H1 F1 σ1 Q ES d.inv d.st (tx.go d.evo fun _ z => z) q1) fun w s2 h => (RP.after d h).weak (fun z => by simp at z; simp [z.1]) (fun z => by simp at z; exact z.1)
  | false => exact thn (hb.run pins s1 σ I1 H1 F1 σ1 Q ES d.inv d.st (tx.go d.evo fun _ z => z) q1) fun w s2 h => (RP.after d h).weak (fun z => by simp at z; simp [z.1, z.2]) (fun z => by simp at z; exact z.2)

/-! ### written arguments, each pure behind its step -/
abbrev TPs := SSt → (List PyData → SSt → Prop) → XS → Prop
def APs (X : Cx) (ar : Nat → Option V) (pins : List (Addr × Obj)) (σ : L2.St) (b : Bool) (I H : Hp) (F : Nat → List Addr) (σs : SSt) (Q : List PyData → SSt → Prop) (us : List Value) (s' : Shared) : Prop :=
  ∃ vs ds I' H' F' σs', BPd X ar pins σ b I H F σs I' H' F' σs' s' ∧ Vals vs us ∧ PRs X.K I' vs ds ∧ Q ds σs'
structure JA (X : Cx) (ar : Nat → Option V) (b : Bool) (es : List Expr) (t : TPs) : Prop where
  run : ∀ (pos : Pos) (pins : List (Addr × Obj)) (s : Shared) (σ : L2.St) (I H : Hp) (F : Nat → List Addr) (σs : SSt) (Q : List PyData → SSt → Prop) (ES : XS), Inv X pins σ H s → StR X.K ar I H σ σs F → TX X ar I H (own F) ES → t σs Q ES →
    wpAny (model X.prog X.w) X.A (spliced (backTo pos (starEach es X.env))) (APs X ar pins σ b I H F σs Q) X.xe s
def pNil : TPs := fun σs Q _ => Q [] σs
def pCons (te : TEs) (t : TPs) : TPs := fun σs Q ES => te σs (fun r σ1 => nd r.toD fun d => t σ1 (fun ds σ2 => Q (d :: ds) σ2) ES) ES
variable {es : List Expr} {te : TEs} {tp : TPs}
theorem ja_nil : JA X ar true [] pNil := ⟨fun _ pins s σ I H F σs Q ES J st tx q => Calls.spliced_nil ⟨[], [], I, H, F, σs, .refl J st, .nil, .nil, q⟩⟩
theorem ja_cons (ha : JE X ar b1 true e te) (hr : JA X ar b2 es tp) (hs : starEach (e :: es) X.env = (false, eval e X.env) :: starEach es X.env := by rfl) : JA X ar (b1 && b2) (e :: es) (pCons te tp) := by
  refine ⟨fun pos pins s σ I H F σs Q ES J st tx q => ?_⟩
  rw [hs]
  show wpAny _ _ (spliced ((false, eval e X.env) :: backTo pos (starEach es X.env))) _ _ s
  refine Calls.spliced_cons (thn (ha.run pins s σ I H F σs _ ES J st tx q) fun v s1 ⟨x, rx, R1, I1, H1, F1, σ1, h1, r1, q1⟩ => ?_)
  obtain ⟨d, ex, q1⟩ := nd_some q1
  obtain ⟨hb, p⟩ := h1.freeze ex
  refine thn (hr.run pos pins s1 σ _ H1 F1 σ1 _ ES hb.inv hb.st (tx.go hb.evo fun _ z => z) q1) fun us s2 ⟨vs, ds, I2, H2, F2, σ2, h2, rv, pv, q2⟩ => ?_
  exact ⟨x :: vs, d :: ds, I2, H2, F2, σ2, hb.then h2, .cons r1 rv, .cons (p.sub h2.evo.up) pv, q2⟩
def sTup (t : TPs) : TEs := fun σs Q ES => t σs (fun ds σ1 => ds.length ≤ sizeLine ∧ Q (.val (.tuple ds)) σ1) ES
def sLst (t : TPs) : TEs := fun σs Q ES => t σs (fun ds σ1 => ds.length ≤ sizeLine ∧ Q (.lst ds) σ1) ES
theorem je_tup {k} (h : JA X ar b1 es tp) : JE X ar b1 true (.Tuple es k pos) (sTup tp) := by
  refine ⟨fun pins s σ I H F σs Q ES J st tx q => ?_⟩
  refine wpAny_Tuple_spliced (thn (h.run pos pins s σ I H F σs _ ES J st tx q) fun us s1 ⟨vs, ds, I1, H1, F1, σ1, h1, rv, pv, z, q1⟩ => ⟨by rw [← rv.length, pv.length]; exact z, ?_⟩)
  have hf : H1 s1.heap.objs.size = none := h1.inv.hok.fresh (Nat.le_refl _)
  refine RP.of_vp h1 ⟨.ref s1.heap.objs.size, upd H1 s1.heap.objs.size (.tup vs), h1.inv.laid (t' := s1.toks) (fun b u e => Heap.get?_push_of_some _ e) (Nat.le_refl _) ?_, rfl, .newTup h1.st.sub hf pv q1⟩
  exact ⟨by rw [pv.length]; exact z, us, rv, ⟨_, Heap.get?_push_size _ rfl, rfl, _, rfl⟩⟩
theorem je_lst (h : JA X ar b1 es tp) : JE X ar b1 true (.List es pos) (sLst tp) := by
  refine ⟨fun pins s σ I H F σs Q ES J st tx q => ?_⟩
  refine wpAny_List_spliced (thn (h.run pos pins s σ I H F σs _ ES J st tx q) fun us s1 ⟨vs, ds, I1, H1, F1, σ1, h1, rv, pv, z, q1⟩ => ⟨by rw [← rv.length, pv.length]; exact z, ?_⟩)
  have hf : H1 s1.heap.objs.size = none := h1.inv.hok.fresh (Nat.le_refl _)
  refine RP.of_vp h1 ⟨.ref s1.heap.objs.size, upd H1 s1.heap.objs.size (.lst vs), h1.inv.laid (t' := s1.toks) (fun b u e => Heap.get?_push_of_some _ e) (Nat.le_refl _) ?_, rfl, .newLst h1.st.sub hf pv q1⟩
  exact ⟨by rw [pv.length]; exact z, us, 0, rv, Heap.get?_push_size _ rfl⟩

/-! ### items, slices -/
theorem je_ix {r : R2s} (hr : IxOp X r) (ha : JE X ar b1 m1 a ta) (hb : JE X ar b2 m2 b tb) (hs : PlainIx b := by exact fun _ _ => rfl) (hm : m1 = true ∨ b2 = true := by first | exact Or.inl rfl | exact Or.inr rfl) :
    JE X ar (b1 && b2) true (.Subscript a b pos) (s2 r ta tb) := by
  refine ⟨fun pins s σ I H F σs Q ES J st tx q => ?_⟩
  refine Subscript_ (thn (ha.run pins s σ I H F σs _ ES J st tx q) fun v s1 ⟨x, rx, R1, I1, H1, F1, σ1, h1, r1, q1⟩ => ?_)
  obtain ⟨dx, ex, q1⟩ := nd_some q1
  refine thn (hb.run pins s1 σ I1 H1 F1 σ1 _ ES h1.inv h1.st (tx.go h1.base.evo fun _ z => z) q1) fun u s2 ⟨y, ry, R2, I2, H2, F2, σ2, h2, r2, q2⟩ => ?_
  obtain ⟨dy, ey, q2⟩ := nd_some q2
  obtain ⟨sx, _, _, _⟩ := h1.over h2.base hm
  exact thn (hr a b pins s2 σ H2 I2 x y v u dx dy _ h2.inv h2.st.sub r1 r2 (sx.ar h2.st.sub ex) (h2.sr.ar h2.st.sub ey) q2 hs) fun w s3 h => RP.of_vp (h1.base.then h2.base) h
/-- a slice's part -/
abbrev TOs := SSt → (Option Int → SSt → Prop) → XS → Prop
structure JO (X : Cx) (ar : Nat → Option V) (b : Bool) (e : Option Expr) (t : TOs) : Prop where
  run : ∀ (pins : List (Addr × Obj)) (s : Shared) (σ : L2.St) (I H : Hp) (F : Nat → List Addr) (σs : SSt) (Q : Option Int → SSt → Prop) (ES : XS), Inv X pins σ H s → StR X.K ar I H σ σs F → TX X ar I H (own F) ES → t σs Q ES →
    wpAny (model X.prog X.w) X.A (evalPart e X.env) (fun u s' => ∃ o I' H' F' σs', BPd X ar pins σ b I H F σs I' H' F' σs' s' ∧ IsPart u o ∧ Q o σs') X.xe s
def oNone : TOs := fun σs Q _ => Q none σs
def oSome (te : TEs) : TOs := fun σs Q ES => te σs (fun r σ1 => match r with
  | .val (.int i) => Q (some i) σ1
  | _ => False) ES
theorem jo_none : JO X ar true none oNone := by
  refine ⟨fun pins s σ I H F σs Q ES J st tx q => ?_⟩
  rw [evalPart_none]
  exact wpAny_pure ⟨none, I, H, F, σs, .refl J st, .none, q⟩
theorem jo_some (h : JE X ar b1 m1 e te) : JO X ar b1 (some e) (oSome te) := by
  refine ⟨fun pins s σ I H F σs Q ES J st tx q => ?_⟩
  rw [evalPart_some]
  refine thn (h.run pins s σ I H F σs _ ES J st tx q) fun u s1 ⟨x, rx, R1, I1, H1, F1, σ1, h1, r1, q1⟩ => ?_
  cases rx with
  | val d =>
    cases d with
    | int i =>
      obtain ⟨_, p⟩ := h1.sr.val_inv
      cases p
      obtain ⟨t, rfl⟩ := r1
      exact ⟨some i, I1, H1, F1, σ1, h1.base, .int i t, q1⟩
    | _ => exact q1.elim
  | _ => exact q1.elim
def sSl (r : PyData → Option Int → Option Int → (S → Prop) → Prop) (ta : TEs) (tl th : TOs) : TEs := fun σs Q ES => ta σs (fun x σ1 => nd x.toD fun dx => tl σ1 (fun l σ2 => th σ2 (fun u σ3 => r dx l u fun z => Q z σ3) ES) ES) ES
variable {lo hi : Option Expr} {tl th : TOs} {p2 : Pos} 
theorem je_slice {r : PyData → Option Int → Option Int → (S → Prop) → Prop} (hr : SlOp X r) (ha : JE X ar b1 m1 a ta) (hl : JO X ar b2 lo tl) (hh : JO X ar b3 hi th) (hm : m1 = true ∨ (b2 && b3) = true := by first | exact Or.inl rfl | exact Or.inr rfl) :
    JE X ar (b1 && (b2 && b3)) true (.Subscript a (.Slice lo hi none p2) pos) (sSl r ta tl th) := by
  refine ⟨fun pins s σ I H F σs Q ES J st tx q => ?_⟩
  refine Subscript_ (thn (ha.run pins s σ I H F σs _ ES J st tx q) fun v s1 ⟨x, rx, R1, I1, H1, F1, σ1, h1, r1, q1⟩ => ?_)
  obtain ⟨dx, ex, q1⟩ := nd_some q1
  refine wpAny_Slice (thn (hl.run pins s1 σ I1 H1 F1 σ1 _ ES h1.inv h1.st (tx.go h1.base.evo fun _ z => z) q1) fun vl s2 ⟨l, I2, H2, F2, σ2, h2, pl, q2⟩ =>
    thn (hh.run pins s2 σ I2 H2 F2 σ2 _ ES h2.inv h2.st (tx.go (h1.base.then h2).evo fun _ z => z) q2) fun vu s3 ⟨u, I3, H3, F3, σ3, h3, pu, q3⟩ => ?_)
  rw [evalPart_none]
  refine wpAny_pure ?_
  have b23 := h2.then h3
  obtain ⟨sx, _, _, _⟩ := h1.over b23 hm
  have I4 : Inv X pins σ H3 { s3 with heap := s3.heap.push { cls := .type "slice", data := .fields #[vl, vu, .none] } } := h3.inv.kept (t' := s3.toks) fun b ob q => Heap.get?_push_of_some _ q
  obtain ⟨r2, hR, q4⟩ := hr I3 (fun z => Q z σ3) dx l u q3 x H3 h3.st.sub (sx.ar h3.st.sub ex)
  obtain ⟨T, id, hT, ht, hg⟩ := hR pins { s3 with heap := s3.heap.push { cls := .type "slice", data := .fields #[vl, vu, .none] } } σ H3 x v vl vu l u s3.heap.objs.size _ I4 r1 (Heap.IsSliceOf.new ..) pl pu q4
  show wpAny (model X.prog X.w) X.A (subscriptTail a (.Slice lo hi none p2) v (.ref s3.heap.objs.size)) _ X.xe { s3 with heap := s3.heap.push { cls := .type "slice", data := .fields #[vl, vu, .none] } }
  exact thn (tail_any (ops := [.ref s3.heap.objs.size, v]) ht hT hg (by with_unfolding_all rfl)) fun w s5 h5 => RP.of_vp (h1.base.then b23) h5
end
end SV
/-! SvF: calls of built-ins, by values. -/
namespace SV
open PySem PySem.Spec PyProof.Rows L2

section
variable {X : Cx} {ar : Nat → Option V} {a b c e : Expr} {b1 b2 b3 m1 m2 m3 : Bool} {ta tb tc : TEs} {pos : Pos} {es : List Expr} {tp : TPs}
/-- arguments that are read alone -/
def ARP (X : Cx) (ar : Nat → Option V) (pins : List (Addr × Obj)) (σ : L2.St) (b : Bool) (I H : Hp) (F : Nat → List Addr) (σs : SSt) (Q : List PyData → SSt → Prop) (us : List Value) (s' : Shared) : Prop :=
  ∃ vs ds I' H' F' σs', BPd X ar pins σ b I H F σs I' H' F' σs' s' ∧ Vals vs us ∧ ARs X.K I' H' vs ds ∧ Q ds σs'
structure JR (X : Cx) (ar : Nat → Option V) (b : Bool) (es : List Expr) (t : TPs) : Prop where
  run : ∀ (pos : Pos) (pins : List (Addr × Obj)) (s : Shared) (σ : L2.St) (I H : Hp) (F : Nat → List Addr) (σs : SSt) (Q : List PyData → SSt → Prop) (ES : XS), Inv X pins σ H s → StR X.K ar I H σ σs F → TX X ar I H (own F) ES → t σs Q ES →
    wpAny (model X.prog X.w) X.A (spliced (backTo pos (starEach es X.env))) (ARP X ar pins σ b I H F σs Q) X.xe s
theorem PRs.ars {K : PySem.W.Frag} {I H : Hp} (sb : Sub I H) : ∀ {vs : List V} {ds : List PyData}, PRs K I vs ds → ARs K I H vs ds
  | _, _, .nil => .nil
  | _, _, .cons h t => .cons (h.ar sb) (PRs.ars sb t)
theorem JA.jr (h : JA X ar b1 es tp) : JR X ar b1 es tp := ⟨fun pos pins s σ I H F σs Q ES J st tx q => thn (h.run pos pins s σ I H F σs Q ES J st tx q) fun us s1 ⟨vs, ds, I1, H1, F1, σ1, d, rv, p, q1⟩ => ⟨vs, ds, I1, H1, F1, σ1, d, rv, p.ars d.st.sub, q1⟩⟩
def pOne (t : TEs) : TPs := fun σs Q ES => t σs (fun r σ1 => nd r.toD fun d => Q [d] σ1) ES
theorem jr_one (h : JE X ar b1 m1 e ta) (hs : starEach [e] X.env = [(false, eval e X.env)] := by rfl) : JR X ar b1 [e] (pOne ta) := by
  refine ⟨fun pos pins s σ I H F σs Q ES J st tx q => ?_⟩
  rw [hs]
  show wpAny _ _ (spliced ((false, eval e X.env) :: backTo pos (starEach [] X.env))) _ _ s
  refine Calls.spliced_cons (thn (h.run pins s σ I H F σs _ ES J st tx q) fun v s1 ⟨x, rx, R1, I1, H1, F1, σ1, h1, r1, q1⟩ => ?_)
  obtain ⟨d, ex, q1⟩ := nd_some q1
  exact Calls.spliced_nil ⟨[x], [d], I1, H1, F1, σ1, h1.base, .cons r1 .nil, .cons (h1.sr.ar h1.st.sub ex) .nil, q1⟩

def sB (r : RNs) (t : TPs) : TEs := fun σs Q ES => t σs (fun ds σ1 => r ds fun z => Q z σ1) ES
theorem fin_vp {pins : List (Addr × Obj)} {σ : L2.St} {I H I1 H1 : Hp} {F F1 : Nat → List Addr} {σs σ1 : SSt} {s1 s2 : Shared} {Q : KS} {w : Value} (d : BPd X ar pins σ b1 I H F σs I1 H1 F1 σ1 s1)
    (h : EP X pins σ (VP X I1 H1 fun z => Q z σ1) w s2) : RP X ar pins σ b1 true I H F σs Q w s2 := RP.of_vp d h
/-- f(e, ..), f a built-in function -/
theorem je_callB {x : Str} {p : Pos} {id : String} {r : RNs} (hc : OpN X (fun us => call (.builtin id) us) r) (hg : Gl X x) (hm : X.mg x = none) (hv : bootBuiltins x = some (.builtin id)) (ha : JR X ar b1 (e :: es) tp) (hn : x ≠ "__name__" := by decide) (hdb : (x == ("__debug__" : Str)) = false := by decide)
    (he : starEach (e :: es) X.env = (false, eval e X.env) :: starEach es X.env := by rfl) (hpl : (backTo pos (starEach es X.env)).any (·.1) = false := by rfl) : JE X ar b1 true (.Call (.Name x p) (e :: es) [] pos) (sB r tp) := by
  refine ⟨fun pins s σ I H F σs Q ES J st tx q => ?_⟩
  refine wpAny_Call_Name_kw (ld_blt J hg hm hv ?_ hn hdb)
  refine PyProof.Rows.callWith_builtin1 (thn (ha.run pos pins s σ I H F σs _ ES J st tx q) fun us s1 ⟨vs, ds, I1, H1, F1, σ1, d, rv, pv, q1⟩ => ?_) he hpl
  exact thn (hc pins s1 σ H1 I1 vs us ds _ d.inv d.st.sub rv pv q1) fun w s2 h => fin_vp d h
/-- T(e, ..), T a built-in type -/
theorem je_callT {x : Str} {p : Pos} {T : String} {r : RNs} (hc : OpN X (fun us => call (.type T) us) r) (hg : Gl X x) (hm : X.mg x = none) (hv : bootBuiltins x = some (.type T)) (ha : JR X ar b1 (e :: es) tp) (hn : x ≠ "__name__" := by decide) (hdb : (x == ("__debug__" : Str)) = false := by decide)
    (he : starEach (e :: es) X.env = (false, eval e X.env) :: starEach es X.env := by rfl) (hpl : (backTo pos (starEach es X.env)).any (·.1) = false := by rfl) : JE X ar b1 true (.Call (.Name x p) (e :: es) [] pos) (sB r tp) := by
  refine ⟨fun pins s σ I H F σs Q ES J st tx q => ?_⟩
  refine wpAny_Call_Name_kw (ld_blt J hg hm hv ?_ hn hdb)
  refine PyProof.Rows.callWith_type1 (thn (ha.run pos pins s σ I H F σs _ ES J st tx q) fun us s1 ⟨vs, ds, I1, H1, F1, σ1, d, rv, pv, q1⟩ => ?_) he hpl
  exact thn (hc pins s1 σ H1 I1 vs us ds _ d.inv d.st.sub rv pv q1) fun w s2 h => fin_vp d h

/-! ### the built-ins -/
theorem ARs.one {K : PySem.W.Frag} {I H : Hp} {xs : List V} {d : PyData} (h : ARs K I H xs [d]) : ∃ x, xs = [x] ∧ AR K I H x d := by
  cases h with
  | cons a t => cases t; exact ⟨_, rfl, a⟩
theorem ARs.two {K : PySem.W.Frag} {I H : Hp} {xs : List V} {d d' : PyData} (h : ARs K I H xs [d, d']) : ∃ x y, xs = [x, y] ∧ AR K I H x d ∧ AR K I H y d' := by
  cases h with
  | cons a t =>
    obtain ⟨y, e, q⟩ := t.one
    subst e
    exact ⟨_, _, rfl, a, q⟩
theorem PRs.intsV {K : PySem.W.Frag} {I : Hp} : ∀ {ns : List Int} {vs : List V}, PRs K I vs (ns.map PyData.int) → vs = ns.map V.int
  | [], _, h => by cases h; rfl
  | n :: ns, _, h => by
    cases h with
    | cons a t =>
      cases a
      rw [PRs.intsV t]
      rfl
theorem PRs.blsV {K : PySem.W.Frag} {I : Hp} : ∀ {ns : List Bool} {vs : List V}, PRs K I vs (ns.map PyData.bool) → vs = ns.map V.bl
  | [], _, h => by cases h; rfl
  | n :: ns, _, h => by
    cases h with
    | cons a t =>
      cases a
      rw [PRs.blsV t]
      rfl
theorem PRs.strsV {K : PySem.W.Frag} {I : Hp} : ∀ {ns : List Str} {vs : List V}, PRs K I vs (ns.map PyData.str) → vs = ns.map V.str
  | [], _, h => by cases h; rfl
  | n :: ns, _, h => by
    cases h with
    | cons a t =>
      cases a
      rw [PRs.strsV t]
      rfl
def rLen : RNs
  | [.list xs], Q => Q (.val (.int xs.length))
  | [.tuple xs], Q => Q (.val (.int xs.length))
  | [.str x], Q => Q (.val (.int x.length))
  | _, _ => False
theorem c_len : OpN X (fun us => call (.builtin "len") us) rLen := by
  intro pins s σ H I xs us ds Q J sb rv pv q
  rcases ds with _ | ⟨d, _ | ⟨d2, dr⟩⟩
  · exact (show False from q).elim
  · obtain ⟨x, e, p⟩ := pv.one
    subst e
    cases p with
    | lst h p => exact call_len_seq pins s σ H _ us _ J rv ⟨_, _, rfl, .inl (SqL.of h), by rw [p.length]; exact .val sb (.int _) q⟩
    | tup h p => exact call_len_seq pins s σ H _ us _ J rv ⟨_, _, rfl, .inr (SqT.sub sb h), by rw [p.length]; exact .val sb (.int _) q⟩
    | str a h z => exact call_len_str pins s σ H _ us _ J rv ⟨a, rfl, z, .val sb (.int _) q⟩
    | _ => exact (show False from q).elim
  · cases d <;> exact (show False from q).elim
def rTuple : RNs
  | [.list xs], Q => Q (.val (.tuple xs))
  | [.tuple xs], Q => Q (.val (.tuple xs))
  | _, _ => False
theorem c_tuple : OpN X (fun us => call (.type "tuple") us) rTuple := by
  intro pins s σ H I xs us ds Q J sb rv pv q
  rcases ds with _ | ⟨d, _ | ⟨d2, dr⟩⟩
  · exact (show False from q).elim
  · obtain ⟨x, e, p⟩ := pv.one
    subst e
    cases p with
    | lst h p => exact call_tuple_of pins s σ H _ us _ J rv ⟨_, _, rfl, .inl ⟨SqL.of h, fun l hl => .newTup sb hl p q⟩⟩
    | tup h p => exact call_tuple_of pins s σ H _ us _ J rv ⟨_, _, rfl, .inr ⟨SqT.sub sb h, .val sb (.tup h p) q⟩⟩
    | _ => exact (show False from q).elim
  · cases d <;> exact (show False from q).elim
def rList : RNs
  | [.list xs], Q => Q (.lst xs)
  | [.tuple xs], Q => Q (.lst xs)
  | _, _ => False
theorem c_list : OpN X (fun us => call (.type "list") us) rList := by
  intro pins s σ H I xs us ds Q J sb rv pv q
  rcases ds with _ | ⟨d, _ | ⟨d2, dr⟩⟩
  · exact (show False from q).elim
  · obtain ⟨x, e, p⟩ := pv.one
    subst e
    cases p with
    | lst h p => exact call_list_of pins s σ H _ us _ J rv ⟨_, _, rfl, .inl (SqL.of h), fun l hl => .newLst sb hl p q⟩
    | tup h p => exact call_list_of pins s σ H _ us _ J rv ⟨_, _, rfl, .inr (SqT.sub sb h), fun l hl => .newLst sb hl p q⟩
    | _ => exact (show False from q).elim
  · cases d <;> exact (show False from q).elim
def rInt : RNs
  | [.int i], Q => Q (.val (.int i))
  | [.bool k], Q => Q (.val (.int (if k then 1 else 0)))
  | [.str x], Q => x.length ≤ 640 ∧ need (PySem.intText? x) fun n => Q (.val (.int n))
  | _, _ => False
theorem c_int : OpN X (fun us => call (.type "int") us) rInt := by
  intro pins s σ H I xs us ds Q J sb rv pv q
  rcases ds with _ | ⟨d, _ | ⟨d2, dr⟩⟩
  · exact (show False from q).elim
  · obtain ⟨x, e, p⟩ := pv.one
    subst e
    cases p with
    | int i => exact call_int1 pins s σ H _ us _ J rv (.inl ⟨i, rfl, .val sb (.int _) q⟩)
    | bl k => exact call_int1 pins s σ H _ us _ J rv (.inr ⟨k, rfl, .val sb (.int _) q⟩)
    | str x h z =>
      obtain ⟨hz, q⟩ := q
      obtain ⟨n, e, q⟩ := need_some q
      exact call_int_str pins s σ H _ us _ J rv ⟨x, n, rfl, e, hz, .val sb (.int _) q⟩
    | _ => exact (show False from q).elim
  · cases d <;> exact (show False from q).elim
/-- signs that a text may have -/
def okL (l : List Nat) : Prop := ∀ c ∈ l, c < 0x110000
theorem strOk_iff {x : Str} : PyData.strOk x = true ↔ okL x.cps.toList := by
  refine ⟨fun h c hc => ?_, fun h => Array.all_eq_true_iff_forall_mem.mpr fun c hc => ?_⟩
  · have := (Array.all_eq_true_iff_forall_mem.mp h) c (by simpa using hc)
    simpa using this
  · have := h c (by simpa using hc)
    simpa using this
theorem okL_chars (l : List Char) : okL (l.map Char.toNat) := fun c hc => by
  obtain ⟨ch, _, rfl⟩ := List.mem_map.mp hc
  have h := ch.valid
  have h2 : ch.toNat = ch.val.toNat := rfl
  rw [h2]
  rcases h with h | ⟨_, h⟩ <;> omega
theorem strOk_ofString (x : String) : PyData.strOk (Str.ofString x) = true := by
  rw [strOk_iff, Str.ofString_eq_toList]
  exact okL_chars x.toList
theorem okL_append {l l' : List Nat} (a : okL l) (b : okL l') : okL (l ++ l') := fun c hc => (List.mem_append.mp hc).elim (a c) (b c)
theorem okL_reprChar {q c : Nat} (hq : q < 0x110000) (hc : c < 0x110000) : okL (Builtin.Str.reprChar q c) := by
  have hx : ∀ n : Nat, okL (List.replicate n 48 ++ (Nat.toDigits 16 c).map Char.toNat) := fun n => okL_append (fun d hd => by
    rw [List.eq_of_mem_replicate hd]
    decide) (okL_chars _)
  have h2 : ∀ (a b : Nat), a < 0x110000 → b < 0x110000 → okL [a, b] := fun a b ha hb d hd => by
    rcases List.mem_cons.mp hd with rfl | hd
    · exact ha
    · rw [List.mem_singleton] at hd
      subst hd
      exact hb
  unfold Builtin.Str.reprChar
  dsimp only
  split
  · exact h2 _ _ (by decide) hc
  · split
    · exact h2 _ _ (by decide) (by decide)
    · split
      · exact h2 _ _ (by decide) (by decide)
      · split
        · exact h2 _ _ (by decide) (by decide)
        · split
          · intro d hd
            rw [List.mem_singleton] at hd
            subst hd
            exact hc
          · split
            · exact okL_append (h2 _ _ (by decide) (by decide)) (hx _)
            · split
              · exact okL_append (h2 _ _ (by decide) (by decide)) (hx _)
              · exact okL_append (h2 _ _ (by decide) (by decide)) (hx _)
theorem okL_fold {q : Nat} (hq : q < 0x110000) : ∀ (l : List Nat) (acc : Array Nat), okL l → okL acc.toList → okL (l.foldl (fun out c => out ++ (Builtin.Str.reprChar q c).toArray) acc).toList
  | [], _, _, h => h
  | c :: r, acc, hl, h => by
    refine okL_fold hq r _ (fun d hd => hl d (List.mem_cons_of_mem _ hd)) ?_
    rw [Array.toList_append]
    exact okL_append h (okL_reprChar hq (hl c List.mem_cons_self))
theorem strOk_reprText {x : Str} (h : PyData.strOk x = true) : PyData.strOk (reprText x) = true := by
  rw [strOk_iff] at h ⊢
  have hq : reprQuote x < 0x110000 := by
    unfold reprQuote
    split <;> decide
  unfold reprText
  rw [Array.toList_push]
  refine okL_append ?_ (fun d hd => ?_)
  · rw [← Array.foldl_toList]
    exact okL_fold hq _ _ h fun d hd => by
      rw [List.mem_singleton] at hd
      subst hd
      exact hq
  · rw [List.mem_singleton] at hd
    subst hd
    exact hq
theorem strOk_textFrom : ∀ (ts : List Str) (k : Nat) (acc : Str), (∀ t ∈ ts, PyData.strOk t = true) → PyData.strOk acc = true → PyData.strOk (textFrom k acc ts) = true
  | [], _, _, _, h => h
  | t :: ts, k, acc, hts, h => by
    unfold textFrom
    refine strOk_textFrom ts (k + 1) _ (fun u hu => hts u (List.mem_cons_of_mem _ hu)) (strOk_append (strOk_append h ?_) (hts t List.mem_cons_self))
    exact strOk_ofString _
theorem strOk_join {y : Str} (hy : PyData.strOk y = true) : ∀ ts : List Str, (∀ t ∈ ts, PyData.strOk t = true) → PyData.strOk (Str.join y ts) = true
  | [], _ => strOk_ofString ""
  | [x], h => h x (by simp)
  | x :: z :: r, h => by
    show PyData.strOk (x ++ y ++ Str.join y (z :: r)) = true
    exact strOk_append (strOk_append (h x (by simp)) hy) (strOk_join hy (z :: r) fun t ht => h t (List.mem_cons_of_mem _ ht))
mutual
theorem strOk_shown : ∀ {d : PyData}, d.canLay0 = true → PyData.strOk d.shown = true
  | .none, _ => by
    rw [PyData.shown]
    exact strOk_ofString _
  | .bool b, _ => by
    rw [PyData.shown]
    split <;> exact strOk_ofString _
  | .int i, _ => by
    rw [PyData.shown]
    exact strOk_ofString _
  | .str x, h => by
    rw [PyData.shown]
    exact strOk_reprText h
  | .list xs, h => by
    rw [PyData.shown]
    exact strOk_append (strOk_textFrom _ _ _ (strOk_shownAll (ds := xs) h) (strOk_ofString _)) (strOk_ofString _)
  | .tuple xs, h => by
    rw [PyData.shown]
    exact strOk_append (strOk_append (strOk_ofString _) (strOk_join (strOk_ofString _) _ (strOk_shownAll (ds := xs) h))) (strOk_ofString _)
  | .dict _, h => by cases h
theorem strOk_shownAll : ∀ {ds : List PyData}, PyData.canLayAll0 ds = true → ∀ t ∈ PyData.shownAll ds, PyData.strOk t = true
  | [], _, t, ht => by
    rw [PyData.shownAll] at ht
    cases ht
  | x :: xs, h, t, ht => by
    rw [PyData.canLayAll0, Bool.and_eq_true] at h
    rw [PyData.shownAll] at ht
    rcases List.mem_cons.mp ht with rfl | ht
    · exact strOk_shown h.1
    · exact strOk_shownAll h.2 t ht
end
def rStr : RNs
  | [.int i], Q => i.natAbs.log2 < 1920 ∧ Q (.val (.str (toString i)))
  | [.str x], Q => Q (.val (.str x))
  | _, _ => False
theorem c_str : OpN X (fun us => call (.type "str") us) rStr := by
  intro pins s σ H I xs us ds Q J sb rv pv q
  rcases ds with _ | ⟨d, _ | ⟨d2, dr⟩⟩
  · exact (show False from q).elim
  · obtain ⟨x, e, p⟩ := pv.one
    subst e
    cases p with
    | int i => exact call_str_int pins s σ H _ us _ J rv ⟨i, rfl, q.1, .val sb (.str _ (strOk_ofString _) (int_text_fits q.1)) q.2⟩
    | str x h z => exact SkE.call_str_str pins s σ H _ us _ J rv ⟨x, rfl, .val sb (.str x h z) q⟩
    | _ => exact (show False from q).elim
  · cases d <;> exact (show False from q).elim
/-- repr(x) can be asked -/
structure ReprOk (d : PyData) : Prop where
  sh : d.showable = true
  len : d.shown.length ≤ sizeLine
  dep : d.depth ≤ 60
mutual
/-- small ints, no dicts -/
def smI : PyData → Bool
  | .none | .bool _ | .str _ => true
  | .int i => decide (i.natAbs < 10 ^ 18)
  | .list xs | .tuple xs => smAll xs
  | .dict _ => false
def smAll : List PyData → Bool
  | [] => true
  | x :: xs => smI x && smAll xs
end
theorem log_small {i : Int} (h : i.natAbs < 10 ^ 18) : i.natAbs.log2 < 64 := by
  by_cases z : i.natAbs = 0
  · rw [z]
    decide
  · exact (Nat.log2_lt z).mpr (Nat.lt_trans h (by decide))
mutual
theorem smI_show : ∀ {d : PyData}, smI d = true → d.showable = true
  | .none, _ => by rw [PyData.showable]
  | .bool _, _ => by rw [PyData.showable]
  | .str _, _ => by rw [PyData.showable]
  | .int i, h => by
    rw [smI, decide_eq_true_eq] at h
    rw [PyData.showable, decide_eq_true_eq]
    have := log_small h
    omega
  | .list xs, h => by
    rw [smI] at h
    rw [PyData.showable]
    exact smAll_show h
  | .tuple xs, h => by
    rw [smI] at h
    rw [PyData.showable]
    exact smAll_show h
  | .dict _, h => by
    rw [smI] at h
    cases h
theorem smAll_show : ∀ {ds : List PyData}, smAll ds = true → PyData.showableAll ds = true
  | [], _ => by rw [PyData.showableAll]
  | x :: xs, h => by
    rw [smAll, Bool.and_eq_true] at h
    rw [PyData.showableAll, Bool.and_eq_true]
    exact ⟨smI_show h.1, smAll_show h.2⟩
end
mutual
theorem smI_short : ∀ {d : PyData}, d.canLay0 = true → smI d = true → d.leavesShort 24 = true
  | .none, _, _ => by rw [PyData.leavesShort]
  | .bool _, _, _ => by rw [PyData.leavesShort]
  | .str x, h, _ => by
    rw [PyData.leavesShort, List.all_eq_true]
    intro c hc
    have := strOk_iff.mp (show PyData.strOk x = true from h) c hc
    rw [decide_eq_true_eq]
    exact Nat.lt_trans this (by decide)
  | .int i, _, h => by
    rw [smI, decide_eq_true_eq] at h
    rw [PyData.leavesShort, decide_eq_true_eq, PyData.shown]
    have := PySem.int_text_length_le10 (a := i) (k := 18) (by decide) h
    show (Str.ofString (toString i)).length ≤ 24
    rw [PySem.ofString_length]
    omega
  | .list xs, h, h2 => by
    rw [smI] at h2
    rw [PyData.leavesShort]
    exact smAll_short (show PyData.canLayAll0 xs = true from h) h2
  | .tuple xs, h, h2 => by
    rw [smI] at h2
    rw [PyData.leavesShort]
    exact smAll_short (show PyData.canLayAll0 xs = true from h) h2
  | .dict _, _, h2 => by
    rw [smI] at h2
    cases h2
theorem smAll_short : ∀ {ds : List PyData}, PyData.canLayAll0 ds = true → smAll ds = true → PyData.leavesShortAll 24 ds = true
  | [], _, _ => by rw [PyData.leavesShortAll]
  | x :: xs, h, h2 => by
    rw [PyData.canLayAll0, Bool.and_eq_true] at h
    rw [smAll, Bool.and_eq_true] at h2
    rw [PyData.leavesShortAll, Bool.and_eq_true]
    exact ⟨smI_short h.1 h2.1, smAll_short h.2 h2.2⟩
end
/-- small enough to be shown -/
structure ReprS (d : PyData) : Prop where
  sm : smI d = true
  bk : d.bulk ≤ 600000
  dep : d.depth ≤ 60
theorem ReprS.ok {d : PyData} (h : ReprS d) (l : d.canLay0 = true) : ReprOk d :=
  ⟨smI_show h.sm, by
    have := PyData.shown_le_bulk 24 (by decide) d (smI_short l h.sm)
    have := h.bk
    have : (16000000 : Nat) ≤ sizeLine := by decide
    omega, h.dep⟩
def rRepr : RNs
  | [d], Q => ReprS d ∧ Q (.val (.str d.shown))
  | _, _ => False
theorem c_repr (hg : X.A.guards = some []) (hu : X.A.units + 64 < cLine) : OpN X (fun us => call (.builtin "repr") us) rRepr := by
  intro pins s σ H I xs us ds Q J sb rv pv q
  rcases ds with _ | ⟨d, _ | ⟨d2, dr⟩⟩
  · exact (show False from q).elim
  · obtain ⟨x, e, p⟩ := pv.one
    subst e
    obtain ⟨u, rfl, ru⟩ := vals1 rv
    obtain ⟨hr0, q⟩ := q
    have hr := hr0.ok p.canLay
    have hok := strOk_shown p.canLay
    have fin : ∀ (s' : Shared) (t : Tok), Inv X pins σ H s' → EP X pins σ (VP X I H Q) (.str d.shown t) s' := fun s' t J' => ⟨.str d.shown, H, J', ⟨t, rfl⟩, .val sb (.str _ hok hr.len) q⟩
    obtain ⟨as, rd⟩ := p.reads J sb ru
    have hl := hr.len
    cases p with
    | non =>
      cases ru
      simp only [PyData.shown] at fin
      exact PySem.P.repr_of_none (fin _ _ (J.tok _))
    | bl b =>
      cases ru
      simp only [PyData.shown] at fin
      exact PySem.P.repr_of_bool (fin _ _ (J.tok _))
    | int i =>
      obtain ⟨t, rfl⟩ := ru
      simp only [PyData.shown] at fin
      have hs := hr.sh
      rw [PyData.showable, decide_eq_true_eq] at hs
      exact PySem.P.repr_of_int hs (fin _ _ (J.tok _))
    | str x h z =>
      obtain ⟨t, rfl⟩ := ru
      simp only [PyData.shown] at fin hl
      exact PySem.P.repr_of_str (fin _ _ (J.tok _)) hl
    | tup h p =>
      cases ru
      exact repr_of_reads' rd hr.sh (PyData.noDict_hsm (PyData.hasDict_of_canLay _ (AR.tup (H := H) h p).canLay)) hg (by have := hr.dep; omega) (fun _ _ z => z) (fun h' u tk k => fin _ _ (J.kept k)) hl
    | lst h p =>
      cases ru
      exact repr_of_reads' rd hr.sh (PyData.noDict_hsm (PyData.hasDict_of_canLay _ (AR.lst (I := I) (H := H) h p).canLay)) hg (by have := hr.dep; omega) (fun _ _ z => z) (fun h' u tk k => fin _ _ (J.kept k)) hl
  · exact (show False from q).elim
end
end SV
/-! SvG: built-ins over lists; methods of built-in types; methods that change an own list. -/
namespace SV
open PySem PySem.Spec PyProof.Rows L2

/-! ### lists of one kind -/
def intsOf : List PyData → Option (List Int)
  | [] => some []
  | .int i :: r => (intsOf r).map (i :: ·)
  | _ :: _ => none
def boolsOf : List PyData → Option (List Bool)
  | [] => some []
  | .bool i :: r => (boolsOf r).map (i :: ·)
  | _ :: _ => none
def strsOf : List PyData → Option (List Str)
  | [] => some []
  | .str i :: r => (strsOf r).map (i :: ·)
  | _ :: _ => none
theorem intsOf_map : ∀ ns : List Int, intsOf (ns.map .int) = some ns
  | [] => rfl
  | n :: r => by
    show (intsOf (r.map .int)).map (n :: ·) = _
    rw [intsOf_map r]
    rfl
theorem boolsOf_map : ∀ ns : List Bool, boolsOf (ns.map .bool) = some ns
  | [] => rfl
  | n :: r => by
    show (boolsOf (r.map .bool)).map (n :: ·) = _
    rw [boolsOf_map r]
    rfl
theorem strsOf_map : ∀ ns : List Str, strsOf (ns.map .str) = some ns
  | [] => rfl
  | n :: r => by
    show (strsOf (r.map .str)).map (n :: ·) = _
    rw [strsOf_map r]
    rfl
theorem intsOf_inv : ∀ {ds : List PyData} {ns : List Int}, intsOf ds = some ns → ds = ns.map .int
  | [], ns, h => by cases h; rfl
  | d :: r, ns, h => by
    cases d with
    | int i =>
      obtain ⟨ms, e, rfl⟩ := Option.map_eq_some_iff.mp (show (intsOf r).map (i :: ·) = some ns from h)
      rw [intsOf_inv e]
      rfl
    | _ => cases h
theorem boolsOf_inv : ∀ {ds : List PyData} {ns : List Bool}, boolsOf ds = some ns → ds = ns.map .bool
  | [], ns, h => by cases h; rfl
  | d :: r, ns, h => by
    cases d with
    | bool i =>
      obtain ⟨ms, e, rfl⟩ := Option.map_eq_some_iff.mp (show (boolsOf r).map (i :: ·) = some ns from h)
      rw [boolsOf_inv e]
      rfl
    | _ => cases h
theorem strsOf_inv : ∀ {ds : List PyData} {ns : List Str}, strsOf ds = some ns → ds = ns.map .str
  | [], ns, h => by cases h; rfl
  | d :: r, ns, h => by
    cases d with
    | str i =>
      obtain ⟨ms, e, rfl⟩ := Option.map_eq_some_iff.mp (show (strsOf r).map (i :: ·) = some ns from h)
      rw [strsOf_inv e]
      rfl
    | _ => cases h

section
variable {X : Cx}
def rSum : RNs
  | [.list xs], Q => need (intsOf xs) fun ns => Q (.val (.int ns.sum))
  | _, _ => False
theorem c_sum (hc : X.calm = true) : OpN X (fun us => call (.builtin "sum") us) rSum := by
  intro pins s σ H I xs us ds Q J sb rv pv q
  rcases ds with _ | ⟨d, _ | ⟨d2, dr⟩⟩
  · exact (show False from q).elim
  · obtain ⟨x, e, p⟩ := pv.one
    subst e
    cases p with
    | lst h p =>
      obtain ⟨ns, e, q2⟩ := need_some q
      have e := intsOf_inv e
      subst e
      rw [p.intsV] at h
      exact cr_sum hc pins s σ H _ us _ J rv ⟨_, ns, rfl, SqL.of h, .val sb (.int _) q2⟩
    | _ => exact (show False from q).elim
  · cases d <;> exact (show False from q).elim
def rAny : RNs
  | [.list xs], Q => need (boolsOf xs) fun ns => Q (.val (.bool (ns.any id)))
  | _, _ => False
def rAll : RNs
  | [.list xs], Q => need (boolsOf xs) fun ns => Q (.val (.bool (ns.all id)))
  | _, _ => False
theorem c_any (hc : X.calm = true) : OpN X (fun us => call (.builtin "any") us) rAny := by
  intro pins s σ H I xs us ds Q J sb rv pv q
  rcases ds with _ | ⟨d, _ | ⟨d2, dr⟩⟩
  · exact (show False from q).elim
  · obtain ⟨x, e, p⟩ := pv.one
    subst e
    cases p with
    | lst h p =>
      obtain ⟨ns, e, q2⟩ := need_some q
      have e := boolsOf_inv e
      subst e
      rw [p.blsV] at h
      exact cr_any hc pins s σ H _ us _ J rv ⟨_, ns, rfl, SqL.of h, .val sb (.bl _) q2⟩
    | _ => exact (show False from q).elim
  · cases d <;> exact (show False from q).elim
theorem c_all (hc : X.calm = true) : OpN X (fun us => call (.builtin "all") us) rAll := by
  intro pins s σ H I xs us ds Q J sb rv pv q
  rcases ds with _ | ⟨d, _ | ⟨d2, dr⟩⟩
  · exact (show False from q).elim
  · obtain ⟨x, e, p⟩ := pv.one
    subst e
    cases p with
    | lst h p =>
      obtain ⟨ns, e, q2⟩ := need_some q
      have e := boolsOf_inv e
      subst e
      rw [p.blsV] at h
      exact cr_all hc pins s σ H _ us _ J rv ⟨_, ns, rfl, SqL.of h, .val sb (.bl _) q2⟩
    | _ => exact (show False from q).elim
  · cases d <;> exact (show False from q).elim
def rMax2 : RNs
  | [.int i, .int j], Q => Q (.val (.int (if j > i then j else i)))
  | _, _ => False
def rMin2 : RNs
  | [.int i, .int j], Q => Q (.val (.int (if j < i then j else i)))
  | _, _ => False
theorem c_max2 (hc : X.calm = true) : OpN X (fun us => call (.builtin "max") us) rMax2 := by
  intro pins s σ H I xs us ds Q J sb rv pv q
  rcases ds with _ | ⟨d, _ | ⟨d2, _ | ⟨d3, dr⟩⟩⟩
  · exact (show False from q).elim
  · cases d <;> exact (show False from q).elim
  · obtain ⟨x, y, e, p, p'⟩ := pv.two
    subst e
    cases p with
    | int i =>
      cases p' with
      | int j => exact call_max2 hc pins s σ H _ us _ J rv ⟨i, j, rfl, .val sb (.int _) q⟩
      | _ => exact (show False from q).elim
    | _ => exact (show False from q).elim
  · cases d <;> cases d2 <;> exact (show False from q).elim
theorem c_min2 (hc : X.calm = true) : OpN X (fun us => call (.builtin "min") us) rMin2 := by
  intro pins s σ H I xs us ds Q J sb rv pv q
  rcases ds with _ | ⟨d, _ | ⟨d2, _ | ⟨d3, dr⟩⟩⟩
  · exact (show False from q).elim
  · cases d <;> exact (show False from q).elim
  · obtain ⟨x, y, e, p, p'⟩ := pv.two
    subst e
    cases p with
    | int i =>
      cases p' with
      | int j => exact call_min2 hc pins s σ H _ us _ J rv ⟨i, j, rfl, .val sb (.int _) q⟩
      | _ => exact (show False from q).elim
    | _ => exact (show False from q).elim
  · cases d <;> cases d2 <;> exact (show False from q).elim
/-- sorted(xs) -/
noncomputable def sortD (ds : List PyData) : List PyData := ds.mergeSort (PySem.W.dataLe false fun d => d)
structure SortOk (ds : List PyData) : Prop where
  al : PySem.W.AllAlike ds
  so : PySem.W.Sortable ds
  dep : ∀ d ∈ ds, d.depth ≤ 60
def rSorted : RNs
  | [.list xs], Q => SortOk xs ∧ Q (.lst (sortD xs))
  | _, _ => False
theorem each_of {K : PySem.W.Frag} {I : Hp} : ∀ {vs : List V} {us : List Value} {ds : List PyData}, Vals vs us → PRs K I vs ds → PySem.W.EachIs (fun u d => ∃ v, RelV v u ∧ PR K I v d) us ds
  | _, _, _, .nil, .nil => .nil
  | _, _, _, .cons r t, .cons p q => .cons ⟨_, r, p⟩ (each_of t q)
theorem of_each {K : PySem.W.Frag} {I : Hp} : ∀ {us : List Value} {ds : List PyData}, PySem.W.EachIs (fun u d => ∃ v, RelV v u ∧ PR K I v d) us ds → ∃ vs, Vals vs us ∧ PRs K I vs ds
  | _, _, .nil => ⟨[], .nil, .nil⟩
  | _, _, .cons ⟨v, r, p⟩ t => let ⟨vs, a, b⟩ := of_each t; ⟨v :: vs, .cons r a, .cons p b⟩
theorem sortD_length (ds : List PyData) : (sortD ds).length = ds.length := by
  unfold sortD
  exact List.length_mergeSort ds
theorem c_sorted (hu : X.A.units + 64 < cLine) : OpN X (fun us => call (.builtin "sorted") us) rSorted := by
  intro pins s σ H I xs us ds Q J sb rv pv q
  rcases ds with _ | ⟨d, _ | ⟨d2, dr⟩⟩
  · exact (show False from q).elim
  · obtain ⟨x, e, p⟩ := pv.one
    subst e
    obtain ⟨u, rfl, ru⟩ := vals1 rv
    cases p with
    | @lst a vs ds h p =>
      cases ru
      obtain ⟨ok, q⟩ := q
      obtain ⟨its, rvs, pl, hz⟩ := J.list (SqL.of (K := X.K) h)
      have eb := each_of rvs p
      refine PySem.W.sorted_data (vs := its) (enc := fun d => d) pl.isList eb (eb.mono fun u d ⟨v, r, pr⟩ => pr.reads J sb r) (by rw [List.map_id']; exact ok.al) (by rw [List.map_id']; exact ok.so) (by rw [← p.length]; exact hz) (fun b hb => by have := ok.dep b hb; omega) fun out hl eo => ?_
      obtain ⟨ws, rws, pws⟩ := of_each eo
      obtain ⟨ep, he⟩ := sortedAll_at s.heap its out.toArray
      have hlen : ws.length ≤ sizeLine := by rw [rws.length, hl, ← p.length]; exact hz
      exact ⟨.ref _, upd H (s.heap.objs.size + 1) (.lst ws), J.laid (t' := s.toks) (fun _ _ => sortedAll_old) (Nat.le_succ _) ⟨hlen, out, ep, rws, he⟩, rfl, .newLst sb (J.hok.fresh (Nat.le_succ _)) pws q⟩
    | _ => exact (show False from q).elim
  · cases d <;> exact (show False from q).elim
end

/-! ### methods of a value of a built-in type -/
abbrev RMs := PyData → RNs
def MOp (X : Cx) (id : String) (r : RMs) : Prop :=
  ∀ (pins : List (Addr × Obj)) (s : Shared) (σ : L2.St) (H I : Hp) (x : V) (xs : List V) (v : Value) (us : List Value) (d : PyData) (ds : List PyData) (Q : S → Prop), Inv X pins σ H s → Sub I H → RelV x v → Vals xs us → AR X.K I H x d → ARs X.K I H xs ds → r d ds Q →
    wpAny (model X.prog X.w) X.A (call (.builtin id) (v :: us)) (EP X pins σ (VP X I H Q)) X.xe s
/-- the built-in type of data -/
def tyD (T : String) : PyData → Prop
  | .str _ => T = "str"
  | .list _ => T = "list"
  | .int _ => T = "int"
  | _ => False
theorem AR.ty {K : PySem.W.Frag} {I H : Hp} {T : String} {x : V} {d : PyData} (h : AR K I H x d) (t : tyD T d) : tyV K T x H := by
  cases h with
  | str => exact t
  | int => exact t
  | lst h _ => exact .inl ⟨t, _, SqL.of h⟩
  | _ => exact t.elim
def sM (T : String) (r : RMs) (to : TEs) (tp : TPs) : TEs := fun σs Q ES => to σs (fun x σ1 => nd x.toD fun d => tyD T d ∧ tp σ1 (fun ds σ2 => r d ds fun z => Q z σ2) ES) ES
section
variable {X : Cx} {ar : Nat → Option V} {o e : Expr} {es : List Expr} {b1 b2 b3 m1 m2 : Bool} {to : TEs} {tp : TPs} {name : Str} {apos cpos : Pos} {T id : String} {r : RMs}
theorem je_meth (pa : PlainAttrs T) (slot : Slot T name id) (hty : typeOf (.builtin id) = pure (.type "method_descriptor")) (hm : MOp X id r) (ho : JE X ar b1 m1 o to) (ha : JA X ar b2 (e :: es) tp) (hv : m1 = true ∨ b2 = true := by first | exact Or.inl rfl | exact Or.inr rfl)
    (hbase : attributeBase o name X.env (eval o X.env) = eval o X.env := by rfl)
    (hfew : ((backTo cpos (starEach (e :: es) X.env)).all (fun x => !x.1) && (backToKw cpos (keywordEach [] X.env)).all (fun x => x.1.isSome)
      && decide ((e :: es).length + ([] : List Keyword).length + (if ([] : List Keyword).isEmpty then 0 else 1) < 30)) = true := by rfl)
    (hline : (apos.endLine == cpos.line) = true := by rfl) (hs : starEach (e :: es) X.env = (false, eval e X.env) :: starEach es X.env := by rfl) (hplain : (backTo cpos (starEach es X.env)).any (·.1) = false := by rfl) :
    JE X ar (b1 && b2) true (.Call (.Attribute o name apos) (e :: es) [] cpos) (sM T r to tp) := by
  refine ⟨fun pins s σ I H F σs Q ES J st tx q => ?_⟩
  refine wpAny_Call_method_late hbase hfew hline rfl (thn (ho.run pins s σ I H F σs _ ES J st tx q) fun v s1 ⟨x, rx, R1, I1, H1, F1, σ1, h1, r1, q1⟩ => ?_)
  obtain ⟨d, ex, ty, q1⟩ := nd_some q1
  obtain ⟨t1, t2⟩ := tyV_is h1.inv r1 ((h1.sr.ar h1.st.sub ex).ty ty)
  refine ⟨T, id, pa, slot, hty, t1, t2, ?_⟩
  have hA := ha.run cpos pins s1 σ I1 H1 F1 σ1 _ ES h1.inv h1.st (tx.go h1.base.evo fun _ z => z) q1
  rw [hs] at hA ⊢
  refine Calls.callWith_builtin (by show (false || (backTo cpos (starEach es X.env)).any (·.1)) = false; rw [hplain] <;> rfl) (Calls.evalArgs_plain ?_)
  refine thn hA fun us s2 ⟨vs, ds, I2, H2, F2, σ2, d2, rv, pv, q2⟩ => ?_
  obtain ⟨sx, _, _, _⟩ := h1.over d2 hv
  exact thn (hm pins s2 σ H2 I2 x vs v us d ds _ d2.inv d2.st.sub r1 rv (sx.ar d2.st.sub ex) (pv.ars d2.st.sub) q2) fun w s3 h => RP.of_vp (h1.base.then d2) h
theorem je_meth0 (pa : PlainAttrs T) (slot : Slot T name id) (hty : typeOf (.builtin id) = pure (.type "method_descriptor")) (hm : MOp X id r) (ho : JE X ar b1 m1 o to)
    (hbase : attributeBase o name X.env (eval o X.env) = eval o X.env := by rfl) (hline : (apos.endLine == cpos.line) = true := by rfl) : JE X ar b1 true (.Call (.Attribute o name apos) [] [] cpos) (sM T r to pNil) := by
  refine ⟨fun pins s σ I H F σs Q ES J st tx q => ?_⟩
  refine wpAny_Call_method0_late hbase hline (thn (ho.run pins s σ I H F σs _ ES J st tx q) fun v s1 ⟨x, rx, R1, I1, H1, F1, σ1, h1, r1, q1⟩ => ?_)
  obtain ⟨d, ex, ty, q1⟩ := nd_some q1
  obtain ⟨t1, t2⟩ := tyV_is h1.inv r1 ((h1.sr.ar h1.st.sub ex).ty ty)
  exact ⟨T, id, pa, slot, hty, t1, t2, Calls.callWith_builtin rfl (PySem.evalArgs_none (thn (hm pins s1 σ H1 I1 x [] v [] d [] _ h1.inv h1.st.sub r1 .nil (h1.sr.ar h1.st.sub ex) .nil q1) fun w s3 h => RP.of_vp h1.base h))⟩
end

section
variable {X : Cx}
def rJoin : RMs
  | .str a, [.list xs], Q => need (strsOf xs) fun ys => (ys.map (·.length)).sum + ys.length * a.length ≤ 16777216 ∧ Q (.val (.str (Txt.join a ys)))
  | _, _, _ => False
theorem join_len (a : Str) : ∀ ys : List Str, (Str.join a ys).length ≤ (ys.map (·.length)).sum + ys.length * a.length
  | [] => Nat.zero_le _
  | [x] => by
    show x.length ≤ _
    simp
  | x :: z :: r => by
    have ih := join_len a (z :: r)
    show (x ++ a ++ Str.join a (z :: r)).length ≤ _
    rw [str_append_length, str_append_length]
    simp only [List.map_cons, List.sum_cons, List.length_cons, Nat.succ_mul, Nat.add_mul] at ih ⊢
    omega
theorem join_eq (a : Str) (ys : List Str) : Txt.join a ys = Str.join a ys := StrLaws.glued_eq_join a ys
theorem PRs.strsOk {K : PySem.W.Frag} {I : Hp} : ∀ {vs : List V} {ys : List Str}, PRs K I vs (ys.map .str) → ∀ t ∈ ys, PyData.strOk t = true ∧ t.length ≤ sizeLine
  | _, [], _, t, ht => by cases ht
  | _, y :: r, h, t, ht => by
    cases h with
    | cons a b =>
      rcases List.mem_cons.mp ht with rfl | ht
      · cases a with
        | str _ h1 h2 => exact ⟨h1, h2⟩
      · exact PRs.strsOk b t ht
theorem m_join : MOp X "str.join" rJoin := by
  intro pins s σ H I x xs v us d ds Q J sb rx rv p pv q
  cases p with
  | str a ha za =>
    rcases ds with _ | ⟨d, _ | ⟨d2, dr⟩⟩
    · exact (show False from q).elim
    · obtain ⟨y, e, p⟩ := pv.one
      subst e
      cases p with
      | lst h p =>
        obtain ⟨ys, e, hz, q2⟩ := need_some q
        have e := strsOf_inv e
        subst e
        have hok := p.strsOk
        rw [p.strsV] at h
        exact mt_join pins s σ H _ _ v us _ J rx rv ⟨a, _, ys, rfl, rfl, .inl (SqL.of h), hz, .val sb (.str _ (by rw [join_eq]; exact strOk_join ha ys fun t ht => (hok t ht).1) (by rw [join_eq, sizeLine_eq]; exact Nat.le_trans (join_len a ys) hz)) q2⟩
      | _ => exact (show False from q).elim
    · cases d <;> exact (show False from q).elim
  | _ => exact (show False from q).elim
end
end SV
/-! SvH: methods that change an own list; what a def promises; its call. -/
namespace SV
open PySem PySem.Spec PyProof.Rows L2

/-! ### an own list is changed -/
section
variable {K : PySem.W.Frag} {ar : Nat → Option V} {I H : Hp} {σ : L2.St} {σs : SSt} {F : Nat → List Addr}
theorem SR.lst_inv {v : V} {ds : List PyData} {R : List Addr} (h : SR K I H v (.lst ds) R) : ∃ a vs, v = .ref a ∧ R = [a] ∧ H a = some (.lst vs) ∧ PRs K I vs ds := by
  generalize e : S.lst ds = r at h
  cases h with
  | val => cases e
  | lst h p => cases e; exact ⟨_, _, rfl, rfl, h, p⟩
  | scr => cases e
  | ins => cases e
theorem StR.mutate (h : StR K ar I H σ σs F) {i : Nat} {a : Addr} {ds ds' : List PyData} {ws : List V} (q : gets σs i = some (.lst ds)) (ev : σ[i]? = some (some (.ref a))) (eF : F i = [a]) (p : PRs K I ws ds') :
    StR K ar I (upd H a (.lst ws)) σ (sets σs i (some (.lst ds'))) F ∧ Evo I H (own F) I (upd H a (.lst ws)) (own F) := by
  have ia : I a = none := h.notI i a (by rw [eF]; simp)
  have ha : ∃ x, H a = some x := h.there ⟨i, by rw [eF]; simp⟩
  have out : ∀ b, (¬ b = a) → upd H a (.lst ws) b = H b := fun b n => upd_ne n
  refine ⟨⟨fun b x e => ?_, fun j r' q' => ?_, fun j q' => ?_, h.dis, h.notI, fun j w r' hj q' => ?_, by rw [sets_length]; exact h.len⟩, ⟨.refl I, fun b x e n => ?_, fun b m => .inl m, fun b x e => .inl e⟩⟩
  · have n : ¬ b = a := fun z => by rw [z, ia] at e; cases e
    rw [out b n]
    exact h.sub b x e
  · by_cases hj : j = i
    · subst hj
      rw [gets_sets_same (gets_some_lt q)] at q'
      cases q'
      refine ⟨_, ev, ?_⟩
      rw [eF]
      exact .lst upd_same p
    · rw [gets_sets_ne hj] at q'
      obtain ⟨w, e2, r2⟩ := h.rep j r' q'
      refine ⟨w, e2, r2.keep (.refl I) fun b m x e => ?_⟩
      have n : ¬ b = a := fun z => by
        subst z
        exact hj (h.dis j i b m (by rw [eF]; simp))
      rw [out b n]
      exact e
  · have hj : j ≠ i := fun e => by
      rw [e, gets_sets_same (gets_some_lt q)] at q'
      cases q'
    rw [gets_sets_ne hj] at q'
    exact h.non j q'
  · by_cases hji : j = i
    · subst hji
      rcases h.par j w _ hj q with ⟨d, e⟩ | e
      · cases e
      · exact .inr e
    · rw [gets_sets_ne hji] at q'
      exact h.par j w r' hj q'
  · have nb : ¬ b = a := fun z => n ⟨i, by rw [eF, z]; simp⟩
    rw [out b nb]
    exact e
end

abbrev RMut := List PyData → List PyData → (PyData → List PyData → Prop) → Prop
def MutOp (X : Cx) (id : String) (r : RMut) : Prop :=
  ∀ (pins : List (Addr × Obj)) (s : Shared) (σ : L2.St) (H I : Hp) (a : Addr) (vs xs : List V) (us : List Value) (ds es : List PyData) (Q : PyData → List PyData → Prop), Inv X pins σ H s → Sub I H → H a = some (.lst vs) → PRs X.K I vs ds → Vals xs us → PRs X.K I xs es → r ds es Q →
    wpAny (model X.prog X.w) X.A (call (.builtin id) (.ref a :: us)) (EP X pins σ fun v H' => ∃ ws ds' d, H' = upd H a (.lst ws) ∧ PRs X.K I ws ds' ∧ PR X.K I v d ∧ Q d ds') X.xe s
def sMut (i : Nat) (r : RMut) (tp : TPs) : TEs := fun σs Q ES => match gets σs i with
  | some (.lst _) => tp σs (fun es σ1 => match gets σ1 i with
    | some (.lst ds) => r ds es fun d ds' => Q (.val d) (sets σ1 i (some (.lst ds')))
    | _ => False) ES
  | _ => False
section
variable {X : Cx} {ar : Nat → Option V} {o e : Expr} {es : List Expr} {b1 b2 b3 m1 m2 : Bool} {to : TEs} {tp : TPs} {name x : Str} {npos apos cpos : Pos} {id : String} {r : RMut}
theorem mut_end {i : Nat} {Q : KS} {pins : List (Addr × Obj)} {σ : L2.St} {I H I1 H1 : Hp} {F F1 : Nat → List Addr} {σs σ1 : SSt} {s1 s2 : Shared} {w : Value} {a : Addr} {ds : List PyData} (d : BPd X ar pins σ b1 I H F σs I1 H1 F1 σ1 s1)
    (g : gets σ1 i = some (.lst ds)) (ev : σ[i]? = some (some (.ref a))) (eF : F1 i = [a])
    (h : EP X pins σ (fun v H' => ∃ ws ds' d, H' = upd H1 a (.lst ws) ∧ PRs X.K I1 ws ds' ∧ PR X.K I1 v d ∧ Q (.val d) (sets σ1 i (some (.lst ds')))) w s2) : RP X ar pins σ false true I H F σs Q w s2 := by
  obtain ⟨v, H2, J2, rv, ws, ds', dd, eH, pw, pd, q⟩ := h
  subst eH
  obtain ⟨st2, ev2⟩ := d.st.mutate g ev eF pw
  exact ⟨v, .val dd, [], I1, _, F1, _, ⟨J2, (d.evo.trans ev2 (fun _ z => z) fun c z => by
    rcases z with z | z
    · cases z
    · exact .inr z), st2, .val pd, fun _ b m => absurd m (by simp), fun b m => absurd m (by simp), (fun z => Bool.noConfusion z)⟩, rv, q⟩
theorem je_mut (i : Nat) (slot : Slot "list" name id) (hty : typeOf (.builtin id) = pure (.type "method_descriptor")) (hm : MutOp X id r) (ha : JA X ar b2 (e :: es) tp)
    (hN : X.N[i]? = some x := by rfl) (hv : Vis X.env.scope x := by first | exact Or.inl rfl | exact Or.inr (Or.inl rfl) | exact Or.inr (Or.inr rfl)) (hd : (x == ("__debug__" : Str)) = false := by decide) (hcd : (x == ("__classdict__" : Str)) = false := by decide)
    (hbase : attributeBase (.Name x npos) name X.env (eval (.Name x npos) X.env) = eval (.Name x npos) X.env := by rfl)
    (hfew : ((backTo cpos (starEach (e :: es) X.env)).all (fun x => !x.1) && (backToKw cpos (keywordEach [] X.env)).all (fun x => x.1.isSome)
      && decide ((e :: es).length + ([] : List Keyword).length + (if ([] : List Keyword).isEmpty then 0 else 1) < 30)) = true := by rfl)
    (hline : (apos.endLine == cpos.line) = true := by rfl) (hs : starEach (e :: es) X.env = (false, eval e X.env) :: starEach es X.env := by rfl) (hplain : (backTo cpos (starEach es X.env)).any (·.1) = false := by rfl) :
    JE X ar false true (.Call (.Attribute (.Name x npos) name apos) (e :: es) [] cpos) (sMut i r tp) := by
  refine ⟨fun pins s σ I H F σs Q ES J st tx q => ?_⟩
  unfold sMut at q
  cases g0 : gets σs i with
  | none => rw [g0] at q; exact q.elim
  | some r0 =>
    rw [g0] at q
    cases r0 with
    | lst ds0 =>
      obtain ⟨v, e1, sr⟩ := st.rep i _ g0
      obtain ⟨a, vs0, rfl, eF0, hH0, p0⟩ := sr.lst_inv
      refine wpAny_Call_method_late hbase hfew hline rfl (eval_name J hN hv e1 hd hcd fun u s1 J1 ru => ?_)
      obtain ⟨t1, t2⟩ := tyV_is (T := "list") J1 ru (.inl ⟨rfl, _, SqL.of hH0⟩)
      refine ⟨"list", id, PySem.F.plainAttrs_list, slot, hty, t1, t2, ?_⟩
      have hA := ha.run cpos pins s1 σ I H F σs _ ES J1 st tx q
      rw [hs] at hA ⊢
      refine Calls.callWith_builtin (by show (false || (backTo cpos (starEach es X.env)).any (·.1)) = false; rw [hplain] <;> rfl) (Calls.evalArgs_plain ?_)
      refine thn hA fun us s2 ⟨vs, ds, I2, H2, F2, σ2, d2, rv, pv, q2⟩ => ?_
      dsimp only at q2
      cases g2 : gets σ2 i with
      | none => rw [g2] at q2; exact q2.elim
      | some r2 =>
        rw [g2] at q2
        cases r2 with
        | lst ds2 =>
          obtain ⟨v2, e2, sr2⟩ := d2.st.rep i _ g2
          obtain ⟨a2, vs2, rfl, eF2, hH2, p2⟩ := sr2.lst_inv
          rw [e1] at e2
          cases e2
          cases ru
          exact thn (hm pins s2 σ H2 I2 a vs2 vs us ds2 ds _ d2.inv d2.st.sub hH2 p2 rv pv q2) fun w s3 h => mut_end d2 g2 e1 eF2 h
        | _ => exact q2.elim
    | _ => exact q.elim
theorem je_mut0 (i : Nat) (slot : Slot "list" name id) (hty : typeOf (.builtin id) = pure (.type "method_descriptor")) (hm : MutOp X id r)
    (hN : X.N[i]? = some x := by rfl) (hv : Vis X.env.scope x := by first | exact Or.inl rfl | exact Or.inr (Or.inl rfl) | exact Or.inr (Or.inr rfl)) (hd : (x == ("__debug__" : Str)) = false := by decide) (hcd : (x == ("__classdict__" : Str)) = false := by decide)
    (hbase : attributeBase (.Name x npos) name X.env (eval (.Name x npos) X.env) = eval (.Name x npos) X.env := by rfl) (hline : (apos.endLine == cpos.line) = true := by rfl) :
    JE X ar false true (.Call (.Attribute (.Name x npos) name apos) [] [] cpos) (sMut i r pNil) := by
  refine ⟨fun pins s σ I H F σs Q ES J st tx q => ?_⟩
  unfold sMut at q
  cases g0 : gets σs i with
  | none => rw [g0] at q; exact q.elim
  | some r0 =>
    rw [g0] at q
    cases r0 with
    | lst ds0 =>
      obtain ⟨v, e1, sr⟩ := st.rep i _ g0
      obtain ⟨a, vs0, rfl, eF0, hH0, p0⟩ := sr.lst_inv
      refine wpAny_Call_method0_late hbase hline (eval_name J hN hv e1 hd hcd fun u s1 J1 ru => ?_)
      obtain ⟨t1, t2⟩ := tyV_is (T := "list") J1 ru (.inl ⟨rfl, _, SqL.of hH0⟩)
      refine ⟨"list", id, PySem.F.plainAttrs_list, slot, hty, t1, t2, Calls.callWith_builtin rfl (PySem.evalArgs_none ?_)⟩
      unfold pNil at q
      dsimp only at q
      rw [g0] at q
      cases ru
      exact thn (hm pins s1 σ H I a vs0 [] [] ds0 [] _ J1 st.sub hH0 p0 .nil .nil q) fun w s3 h => mut_end (b1 := true) (BPd.refl J1 st) g0 e1 eF0 h
    | _ => exact q.elim
end

section
variable {X : Cx}
def uAppend : RMut
  | ds, [d], Q => ds.length < sizeLine ∧ Q .none (ds ++ [d])
  | _, _, _ => False
theorem PRs.oneV {K : PySem.W.Frag} {I : Hp} {xs : List V} {d : PyData} (h : PRs K I xs [d]) : ∃ x, xs = [x] ∧ PR K I x d := by
  cases h with
  | cons a t => cases t; exact ⟨_, rfl, a⟩
theorem u_append : MutOp X "list.append" uAppend := by
  intro pins s σ H I a vs xs us ds es Q J sb hH p rv pe q
  rcases es with _ | ⟨d, _ | ⟨d2, dr⟩⟩
  · exact (show False from q).elim
  · obtain ⟨x, e, pd⟩ := pe.oneV
    subst e
    exact mt_append pins s σ H (.ref a) _ (.ref a) us _ J rfl rv ⟨a, vs, x, rfl, rfl, hH, by rw [p.length]; exact q.1, _, _, _, rfl, p.append (.cons pd .nil), .non, q.2⟩
  · exact (show False from q).elim
def uExtend : RMut
  | ds, [.list es], Q => ds.length + es.length ≤ sizeLine ∧ Q .none (ds ++ es)
  | _, _, _ => False
theorem u_extend : MutOp X "list.extend" uExtend := by
  intro pins s σ H I a vs xs us ds es Q J sb hH p rv pe q
  rcases es with _ | ⟨d, _ | ⟨d2, dr⟩⟩
  · exact (show False from q).elim
  · obtain ⟨x, e, pd⟩ := pe.oneV
    subst e
    cases pd with
    | lst h p2 => exact mt_extend pins s σ H (.ref a) _ (.ref a) us _ J rfl rv ⟨a, _, vs, _, rfl, rfl, hH, sb _ _ h, by rw [p.length, p2.length]; exact q.1, _, _, _, rfl, p.append p2, .non, q.2⟩
    | _ => exact (show False from q).elim
  · cases d <;> exact (show False from q).elim
def uPop : RMut
  | ds, [], Q => need ds.getLast? fun d => Q d ds.dropLast
  | ds, [.int i], Q => (-(2 ^ 63) ≤ i ∧ i < 2 ^ 63) ∧ need (ixN ds.length i) fun k => need ds[k]? fun d => Q d (ds.eraseIdx k)
  | _, _, _ => False
theorem PRs.dropLast {K : PySem.W.Frag} {I : Hp} : ∀ {vs : List V} {ds : List PyData}, PRs K I vs ds → PRs K I vs.dropLast ds.dropLast
  | _, _, .nil => .nil
  | _, _, .cons h .nil => .nil
  | _, _, .cons h (.cons h' t) => .cons h (PRs.dropLast (.cons h' t))
theorem PRs.eraseIdx {K : PySem.W.Frag} {I : Hp} : ∀ {vs : List V} {ds : List PyData} (k : Nat), PRs K I vs ds → PRs K I (vs.eraseIdx k) (ds.eraseIdx k)
  | _, _, _, .nil => .nil
  | _, _, 0, .cons _ t => t
  | _, _, k + 1, .cons h t => .cons h (PRs.eraseIdx k t)
theorem u_pop : MutOp X "list.pop" uPop := by
  intro pins s σ H I a vs xs us ds es Q J sb hH p rv pe q
  rcases es with _ | ⟨d, _ | ⟨d2, dr⟩⟩
  · cases pe
    obtain ⟨d, e, q2⟩ := need_some q
    rw [List.getLast?_eq_getElem?] at e
    obtain ⟨v, e1, pd⟩ := p.get e
    rw [← p.length] at e1
    exact mt_pop pins s σ H (.ref a) _ (.ref a) us _ J rfl rv ⟨a, vs, v, rfl, rfl, hH, e1, _, _, _, rfl, p.dropLast, pd, q2⟩
  · obtain ⟨x, e, pd⟩ := pe.oneV
    subst e
    cases pd with
    | int i =>
      obtain ⟨⟨h1, h2⟩, q⟩ := q
      obtain ⟨k, ek, q⟩ := need_some q
      obtain ⟨d, ed, q2⟩ := need_some q
      obtain ⟨v, e1, pd⟩ := p.get ed
      exact mt_popAt pins s σ H (.ref a) _ (.ref a) us _ J rfl rv ⟨a, vs, i, k, v, rfl, rfl, hH, h1, h2, by rw [p.length]; exact (ixN_seq ek).1, e1, _, _, _, rfl, p.eraseIdx k, pd, q2⟩
    | _ => exact (show False from q).elim
  · cases d <;> exact (show False from q).elim
def uReverse : RMut
  | ds, [], Q => Q .none ds.reverse
  | _, _, _ => False
theorem u_reverse : MutOp X "list.reverse" uReverse := by
  intro pins s σ H I a vs xs us ds es Q J sb hH p rv pe q
  rcases es with _ | ⟨d, dr⟩
  · cases pe
    exact mt_reverse pins s σ H (.ref a) _ (.ref a) us _ J rfl rv ⟨a, vs, rfl, rfl, hH, _, _, _, rfl, p.reverse, .non, q⟩
  · exact (show False from q).elim
def uInsert : RMut
  | ds, [.int i, d], Q => (ds.length < sizeLine ∧ 0 ≤ i ∧ i < 2 ^ 63) ∧ Q .none (ds.take i.toNat ++ [d] ++ ds.drop i.toNat)
  | _, _, _ => False
theorem u_insert : MutOp X "list.insert" uInsert := by
  intro pins s σ H I a vs xs us ds es Q J sb hH p rv pe q
  rcases es with _ | ⟨d, _ | ⟨d2, _ | ⟨d3, dr⟩⟩⟩
  · exact (show False from q).elim
  · cases d <;> exact (show False from q).elim
  · cases pe with
    | cons p1 t =>
      obtain ⟨y, e, p2⟩ := t.oneV
      subst e
      cases p1 with
      | int i =>
        obtain ⟨⟨h1, h2, h3⟩, q⟩ := q
        exact mt_insert pins s σ H (.ref a) _ (.ref a) us _ J rfl rv ⟨a, vs, i, y, rfl, rfl, hH, by rw [p.length]; exact h1, h2, h3, _, _, _, rfl, ((p.take _).append (.cons p2 .nil)).append (p.drop _), .non, q⟩
      | _ => exact (show False from q).elim
  · cases d <;> exact (show False from q).elim
end

/-! ### what a def promises -/
abbrev QS := S → SSt → Prop
abbrev XQ := Value → Option (List (Str × PyData)) → Prop
/-- by the arguments; wanted of the result and of what the arguments hold behind; wanted of an exception -/
abbrev Sps := List S → QS → XQ → Prop
def RQ (K : PySem.W.Frag) (vs : List V) (I H : Hp) (F : Nat → List Addr) (Q : QS) : VK := fun v H' =>
  ∃ r R I' F' ss', Evo I H (own F) I' H' (fun a => a ∈ R ∨ own F' a) ∧ StR K (arV vs) I' H' (vs.map some) ss' F' ∧ SR K I' H' v r R ∧ (∀ a ∈ R, ¬ own F' a) ∧ (∀ a ∈ R, I' a = none) ∧ Q r ss'
def EQ (K : PySem.W.Frag) (I H : Hp) (F : Nat → List Addr) (E : XQ) : XK := fun cls d H' =>
  ∃ I' ed, Evo I H (own F) I' H' (fun _ => False) ∧ Sub I' H' ∧ ED K I' H' d ed ∧ E cls ed
structure FnG (P : Program) (w : World) (K : PySem.W.Frag) (mg : Str → Option Value) (base : Heap) (k : Nat) (f : Addr) (fd : FuncData) (ps : List Str) (sp : Sps) : Prop where
  len : ∀ ss Q E, sp ss Q E → ss.length = ps.length
  run : ∀ (A : Around) (outer : List Env) (s : Shared) (H I : Hp) (F : Nat → List Addr) (args : Args) (us : List Value) (vs : List V) (ss : List S) (Q : QS) (E : XQ), Room k A → A.guards = some [] → Env0 P w K mg base A outer s H →
    BindsTo s fd args (ps.zip us) → Vals vs us → StR K (arV vs) I H (vs.map some) (ss.map some) F → sp ss Q E →
    codeAny (model P w) A (.call (.ref f) args) (CR (L2.CX P w) outer P w H s (RQ K vs I H F Q) (EQ K I H F E)) s
theorem FnG.imp {P : Program} {w : World} {K : PySem.W.Frag} {mg : Str → Option Value} {base : Heap} {k : Nat} {f : Addr} {fd : FuncData} {ps : List Str} {sp sp' : Sps} (h : FnG P w K mg base k f fd ps sp) (i : ∀ ss Q E, sp' ss Q E → sp ss Q E) : FnG P w K mg base k f fd ps sp' :=
  ⟨fun ss Q E q => h.len ss Q E (i _ _ _ q), fun A outer s H I F args us vs ss Q E a b c d e g q => h.run A outer s H I F args us vs ss Q E a b c d e g (i _ _ _ q)⟩
theorem FnG.mono {P : Program} {w : World} {K : PySem.W.Frag} {mg : Str → Option Value} {base : Heap} {j k : Nat} {f : Addr} {fd : FuncData} {ps : List Str} {sp : Sps} (h : FnG P w K mg base j f fd ps sp) (i : j ≤ k) : FnG P w K mg base k f fd ps sp :=
  ⟨h.len, fun A outer s H I F args us vs ss Q E a => h.run A outer s H I F args us vs ss Q E (a.mono i)⟩

/-! ### a call's arguments: pure data, or a name lent -/
inductive Arg where
  | d (x : PyData)
  | s (i : Nat)
def argS (σs : SSt) : List Arg → Option (List S)
  | [] => some []
  | .d x :: r => (argS σs r).map (.val x :: ·)
  | .s i :: r => match gets σs i with
    | some (.val _) => none
    | some y => (argS σs r).map (y :: ·)
    | none => none
/-- the names that are lent, each once -/
def lentOk : List Arg → List Nat → Bool
  | [], _ => true
  | .d _ :: r, l => lentOk r l
  | .s i :: r, l => !(l.contains i) && lentOk r (i :: l)
/-- the lent names behind the call -/
def back : List Arg → SSt → SSt → SSt
  | .s i :: r, x :: ss, σs => back r ss (sets σs i x)
  | .d _ :: r, _ :: ss, σs => back r ss σs
  | _, _, σs => σs
/-- the lent names where the call has raised -/
def lose : List Arg → SSt → SSt
  | .s i :: r, σs => lose r (match gets σs i with
    | some (.val _) => σs
    | _ => sets σs i none)
  | .d _ :: r, σs => lose r σs
  | [], σs => σs
end SV
/-! SvI: the call of a def. -/
namespace SV
open PySem PySem.Spec PyProof.Rows L2

/-- where among the arguments the i-th slot is lent -/
def lentIx : List Arg → Nat → Option Nat
  | [], _ => none
  | .d _ :: r, i => (lentIx r i).map (· + 1)
  | .s j :: r, i => if j = i then some 0 else (lentIx r i).map (· + 1)
theorem lentIx_not : ∀ {as : List Arg} {l : List Nat} {i : Nat}, lentOk as l = true → i ∈ l → lentIx as i = none
  | [], _, _, _, _ => rfl
  | .d _ :: r, l, i, h, m => by
    show (lentIx r i).map (· + 1) = none
    rw [lentIx_not (as := r) (l := l) h m]
    rfl
  | .s j :: r, l, i, h, m => by
    have h' : (!(l.contains j) && lentOk r (j :: l)) = true := h
    rw [Bool.and_eq_true] at h'
    have ne : j ≠ i := fun e => by
      subst e
      have : l.contains j = true := by simpa using m
      rw [this] at h'
      exact absurd h'.1 (by decide)
    show (if j = i then some 0 else (lentIx r i).map (· + 1)) = none
    rw [if_neg ne, lentIx_not (as := r) h'.2 (List.mem_cons_of_mem _ m)]
    rfl
theorem lentIx_get : ∀ {as : List Arg} {l : List Nat} {i k : Nat}, lentOk as l = true → (lentIx as i = some k ↔ as[k]? = some (.s i))
  | [], _, _, _, _ => by simp [lentIx]
  | .d _ :: r, l, i, 0, h => by
    show (lentIx r i).map (· + 1) = some 0 ↔ _
    cases lentIx r i <;> simp
  | .d _ :: r, l, i, k + 1, h => by
    show (lentIx r i).map (· + 1) = some (k + 1) ↔ _
    rw [List.getElem?_cons_succ, ← lentIx_get (as := r) (l := l) (i := i) (k := k) h]
    cases lentIx r i <;> simp
  | .s j :: r, l, i, 0, h => by
    show (if j = i then some 0 else (lentIx r i).map (· + 1)) = some 0 ↔ _
    by_cases e : j = i
    · rw [if_pos e, e]
      simp
    · rw [if_neg e]
      cases lentIx r i <;> simp [e]
  | .s j :: r, l, i, k + 1, h => by
    have h' : (!(l.contains j) && lentOk r (j :: l)) = true := h
    rw [Bool.and_eq_true] at h'
    show (if j = i then some 0 else (lentIx r i).map (· + 1)) = some (k + 1) ↔ _
    rw [List.getElem?_cons_succ, ← lentIx_get (as := r) (i := i) (k := k) h'.2]
    by_cases e : j = i
    · rw [if_pos e, lentIx_not h'.2 (by rw [e]; simp)]
      simp
    · rw [if_neg e]
      cases lentIx r i <;> simp
theorem argS_s {i : Nat} {as : List Arg} {σs : SSt} {ss : List S} (h : argS σs (.s i :: as) = some ss) : ∃ y ss', gets σs i = some y ∧ (∀ d, y ≠ .val d) ∧ argS σs as = some ss' ∧ ss = y :: ss' := by
  have h' : (match gets σs i with
    | some (.val _) => none
    | some y => (argS σs as).map (y :: ·)
    | none => none) = some ss := h
  cases e0 : gets σs i with
  | none => rw [e0] at h'; cases h'
  | some y =>
    rw [e0] at h'
    cases y with
    | val d => cases h'
    | _ =>
      obtain ⟨ss', e, rfl⟩ := Option.map_eq_some_iff.mp h'
      exact ⟨_, ss', rfl, (fun d => by simp), e, rfl⟩
theorem argS_get : ∀ {as : List Arg} {ss : List S} {σs : SSt} {k : Nat} {r : S}, argS σs as = some ss → ss[k]? = some r → (∃ d, as[k]? = some (.d d) ∧ r = .val d) ∨ ∃ i, as[k]? = some (.s i) ∧ gets σs i = some r ∧ ∀ d, r ≠ .val d
  | [], ss, _, k, r, h, g => by
    cases h
    simp at g
  | .d x :: as, ss, σs, k, r, h, g => by
    obtain ⟨ss', e, rfl⟩ := Option.map_eq_some_iff.mp (show (argS σs as).map (S.val x :: ·) = some ss from h)
    cases k with
    | zero =>
      simp at g
      exact .inl ⟨x, rfl, g.symm⟩
    | succ k => exact argS_get (as := as) (k := k) e (by simpa using g)
  | .s i :: as, ss, σs, k, r, h, g => by
    obtain ⟨y, ss', e0, ny, e, rfl⟩ := argS_s h
    cases k with
    | zero =>
      simp at g
      subst g
      exact .inr ⟨i, rfl, e0, ny⟩
    | succ k => exact argS_get (as := as) (k := k) e (by simpa using g)
theorem argS_length : ∀ {as : List Arg} {ss : List S} {σs : SSt}, argS σs as = some ss → ss.length = as.length
  | [], ss, _, h => by cases h; rfl
  | .d x :: as, ss, σs, h => by
    obtain ⟨ss', e, rfl⟩ := Option.map_eq_some_iff.mp (show (argS σs as).map (S.val x :: ·) = some ss from h)
    simp [argS_length e]
  | .s i :: as, ss, σs, h => by
    obtain ⟨y, ss', e0, ny, e, rfl⟩ := argS_s h
    simp [argS_length e]
theorem gets_map {ss : List S} {j : Nat} : gets (ss.map some) j = ss[j]? := by
  induction ss generalizing j with
  | nil => rfl
  | cons x r ih =>
    cases j with
    | zero => rfl
    | succ j => exact (ih (j := j)).trans (by simp)
theorem back_length : ∀ {as : List Arg} {ss σs : SSt}, (back as ss σs).length = σs.length
  | [], _, _ => by rfl
  | .d _ :: r, [], _ => rfl
  | .s _ :: r, [], _ => rfl
  | .d _ :: r, _ :: ss, σs => back_length (as := r)
  | .s i :: r, x :: ss, σs => (back_length (as := r)).trans sets_length
theorem back_get : ∀ {as : List Arg} {l : List Nat} {ss σs : SSt} {i : Nat}, lentOk as l = true → as.length = ss.length → i < σs.length → gets (back as ss σs) i = (match lentIx as i with
    | some k => gets ss k
    | none => gets σs i)
  | [], _, [], _, _, _, _, _ => rfl
  | [], _, _ :: _, _, _, _, h, _ => by simp at h
  | _ :: _, _, [], _, _, _, h, _ => by simp at h
  | .d _ :: r, l, x :: ss, σs, i, h, hl, hi => by
    have ih := back_get (as := r) (l := l) (ss := ss) (σs := σs) (i := i) h (by simpa using hl) hi
    show gets (back r ss σs) i = (match (lentIx r i).map (· + 1) with
      | some k => gets (x :: ss) k
      | none => gets σs i)
    rw [ih]
    cases lentIx r i <;> rfl
  | .s j :: r, l, x :: ss, σs, i, h, hl, hi => by
    have h' : (!(l.contains j) && lentOk r (j :: l)) = true := h
    rw [Bool.and_eq_true] at h'
    have ih := back_get (as := r) (l := j :: l) (ss := ss) (σs := sets σs j x) (i := i) h'.2 (by simpa using hl) (by rw [sets_length]; exact hi)
    show gets (back r ss (sets σs j x)) i = (match (if j = i then some 0 else (lentIx r i).map (· + 1)) with
      | some k => gets (x :: ss) k
      | none => gets σs i)
    rw [ih]
    by_cases e : j = i
    · rw [if_pos e, lentIx_not h'.2 (by rw [e]; simp)]
      subst e
      show gets (sets σs j x) j = x
      cases x with
      | none => exact gets_sets_none
      | some y => exact gets_sets_same hi
    · rw [if_neg e, gets_sets_ne (fun z => e z.symm)]
      cases lentIx r i <;> rfl
theorem lose_length : ∀ {as : List Arg} {σs : SSt}, (lose as σs).length = σs.length
  | [], _ => rfl
  | .d _ :: r, σs => lose_length (as := r)
  | .s i :: r, σs => by
    show (lose r _).length = _
    rw [lose_length]
    split
    · rfl
    · exact sets_length
/-- what is still known -/
theorem lose_some : ∀ {as : List Arg} {σs : SSt} {i : Nat} {r : S}, gets (lose as σs) i = some r → gets σs i = some r ∧ ((∃ d, r = .val d) ∨ ∀ k : Nat, as[k]? ≠ some (Arg.s i))
  | [], σs, i, r, h => ⟨h, .inr fun k => by simp⟩
  | .d _ :: as, σs, i, r, h => by
    obtain ⟨a, b⟩ := lose_some (as := as) h
    refine ⟨a, b.imp id fun q k => ?_⟩
    cases k with
    | zero => simp
    | succ k => simpa using q k
  | .s j :: as, σs, i, r, h => by
    have h' : gets (lose as (match gets σs j with
      | some (.val _) => σs
      | _ => sets σs j none)) i = some r := h
    obtain ⟨a, b⟩ := lose_some (as := as) h'
    by_cases e : j = i
    · subst e
      split at a
      · rename_i d hd
        rw [hd] at a
        cases a
        exact ⟨hd, .inl ⟨_, rfl⟩⟩
      · rw [gets_sets_none] at a
        cases a
    · have a' : gets σs i = some r := by
        split at a
        · exact a
        · rw [gets_sets_ne (fun z => e z.symm)] at a
          exact a
      refine ⟨a', b.imp id fun q k => ?_⟩
      cases k with
      | zero =>
        simp
        exact e
      | succ k => simpa using q k

/-! ### arguments -/
abbrev TCs := SSt → (List Arg → SSt → Prop) → XS → Prop
/-- what the arguments are, by values -/
def CAs (K : PySem.W.Frag) (I : Hp) (σ : L2.St) : List V → List Arg → Prop
  | [], [] => True
  | v :: vs, .d x :: as => PR K I v x ∧ CAs K I σ vs as
  | v :: vs, .s i :: as => σ[i]? = some (some v) ∧ CAs K I σ vs as
  | _, _ => False
theorem CAs.sub {K : PySem.W.Frag} {I I' : Hp} {σ : L2.St} (e : Sub I I') : ∀ {vs : List V} {as : List Arg}, CAs K I σ vs as → CAs K I' σ vs as
  | [], [], h => trivial
  | _ :: _, .d x :: _, h => ⟨h.1.sub e, CAs.sub e h.2⟩
  | _ :: _, .s i :: _, h => ⟨h.1, CAs.sub e h.2⟩
  | [], _ :: _, h => h.elim
  | _ :: _, [], h => h.elim
theorem CAs.length {K : PySem.W.Frag} {I : Hp} {σ : L2.St} : ∀ {vs : List V} {as : List Arg}, CAs K I σ vs as → vs.length = as.length
  | [], [], h => rfl
  | _ :: _, .d x :: _, h => by simp [CAs.length h.2]
  | _ :: _, .s i :: _, h => by simp [CAs.length h.2]
  | [], _ :: _, h => h.elim
  | _ :: _, [], h => h.elim
theorem CAs.getD {K : PySem.W.Frag} {I : Hp} {σ : L2.St} : ∀ {vs : List V} {as : List Arg} {k : Nat} {x : PyData}, CAs K I σ vs as → as[k]? = some (.d x) → ∃ v, vs[k]? = some v ∧ PR K I v x
  | [], [], k, _, h, g => by simp at g
  | v :: _, .d y :: _, 0, x, h, g => by
    simp at g
    subst g
    exact ⟨v, rfl, h.1⟩
  | v :: _, .s i :: _, 0, x, h, g => by simp at g
  | _ :: _, .d y :: _, k + 1, x, h, g => by simpa using CAs.getD (k := k) h.2 (by simpa using g)
  | _ :: _, .s i :: _, k + 1, x, h, g => by simpa using CAs.getD (k := k) h.2 (by simpa using g)
  | [], _ :: _, _, _, h, _ => h.elim
  | _ :: _, [], _, _, h, _ => h.elim
theorem CAs.getS {K : PySem.W.Frag} {I : Hp} {σ : L2.St} : ∀ {vs : List V} {as : List Arg} {k i : Nat}, CAs K I σ vs as → as[k]? = some (.s i) → ∃ v, vs[k]? = some v ∧ σ[i]? = some (some v)
  | [], [], k, _, h, g => by simp at g
  | v :: _, .d y :: _, 0, x, h, g => by simp at g
  | v :: _, .s i :: _, 0, x, h, g => by
    simp at g
    subst g
    exact ⟨v, rfl, h.1⟩
  | _ :: _, .d y :: _, k + 1, x, h, g => by simpa using CAs.getS (k := k) h.2 (by simpa using g)
  | _ :: _, .s i :: _, k + 1, x, h, g => by simpa using CAs.getS (k := k) h.2 (by simpa using g)
  | [], _ :: _, _, _, h, _ => h.elim
  | _ :: _, [], _, _, h, _ => h.elim
def CPs (X : Cx) (ar : Nat → Option V) (pins : List (Addr × Obj)) (σ : L2.St) (I H : Hp) (F : Nat → List Addr) (σs : SSt) (Q : List Arg → SSt → Prop) (us : List Value) (s' : Shared) : Prop :=
  ∃ vs as I' H' F' σs', BPd X ar pins σ false I H F σs I' H' F' σs' s' ∧ Vals vs us ∧ CAs X.K I' σ vs as ∧ Q as σs'
structure JC (X : Cx) (ar : Nat → Option V) (es : List Expr) (t : TCs) : Prop where
  run : ∀ (pos : Pos) (pins : List (Addr × Obj)) (s : Shared) (σ : L2.St) (I H : Hp) (F : Nat → List Addr) (σs : SSt) (Q : List Arg → SSt → Prop) (ES : XS), Inv X pins σ H s → StR X.K ar I H σ σs F → TX X ar I H (own F) ES → t σs Q ES →
    wpAny (model X.prog X.w) X.A (spliced (backTo pos (starEach es X.env))) (CPs X ar pins σ I H F σs Q) X.xe s
def cNil : TCs := fun σs Q _ => Q [] σs
def cVal (te : TEs) (t : TCs) : TCs := fun σs Q ES => te σs (fun r σ1 => nd r.toD fun d => t σ1 (fun as σ2 => Q (.d d :: as) σ2) ES) ES
def cLent (i : Nat) (t : TCs) : TCs := fun σs Q ES => nd (gets σs i) fun r => match r with
  | .val d => t σs (fun as σ2 => Q (.d d :: as) σ2) ES
  | _ => t σs (fun as σ2 => Q (.s i :: as) σ2) ES
section
variable {X : Cx} {ar : Nat → Option V} {e : Expr} {es : List Expr} {b1 : Bool} {te : TEs} {t : TCs}
theorem jc_nil : JC X ar [] cNil := ⟨fun _ pins s σ I H F σs Q ES J st tx q => Calls.spliced_nil ⟨[], [], I, H, F, σs, BPd.refl J st, .nil, trivial, q⟩⟩
theorem jc_val (ha : JE X ar b1 true e te) (hr : JC X ar es t) (hs : starEach (e :: es) X.env = (false, eval e X.env) :: starEach es X.env := by rfl) : JC X ar (e :: es) (cVal te t) := by
  refine ⟨fun pos pins s σ I H F σs Q ES J st tx q => ?_⟩
  rw [hs]
  show wpAny _ _ (spliced ((false, eval e X.env) :: backTo pos (starEach es X.env))) _ _ s
  refine Calls.spliced_cons (thn (ha.run pins s σ I H F σs _ ES J st tx q) fun v s1 ⟨x, rx, R1, I1, H1, F1, σ1, h1, r1, q1⟩ => ?_)
  obtain ⟨d, ex, q1⟩ := nd_some q1
  obtain ⟨hb, p⟩ := h1.freeze ex
  refine thn (hr.run pos pins s1 σ _ H1 F1 σ1 _ ES hb.inv hb.st (tx.go hb.evo fun _ z => z) q1) fun us s2 ⟨vs, as, I2, H2, F2, σ2, h2, rv, pv, q2⟩ => ?_
  exact ⟨x :: vs, .d d :: as, I2, H2, F2, σ2, (hb.then h2).weak (fun z => by simp at z), .cons r1 rv, ⟨p.sub h2.evo.up, pv⟩, q2⟩
theorem jc_lent (i : Nat) {x : Str} {pos : Pos} (hr : JC X ar es t) (hN : X.N[i]? = some x := by rfl) (hv : Vis X.env.scope x := by first | exact Or.inl rfl | exact Or.inr (Or.inl rfl) | exact Or.inr (Or.inr rfl)) (hd : (x == ("__debug__" : Str)) = false := by decide)
    (hcd : (x == ("__classdict__" : Str)) = false := by decide) (hs : starEach (.Name x pos :: es) X.env = (false, eval (.Name x pos) X.env) :: starEach es X.env := by rfl) : JC X ar (.Name x pos :: es) (cLent i t) := by
  refine ⟨fun pos' pins s σ I H F σs Q ES J st tx q => ?_⟩
  rw [hs]
  show wpAny _ _ (spliced ((false, eval (.Name x pos) X.env) :: backTo pos' (starEach es X.env))) _ _ s
  obtain ⟨r, er, q⟩ := nd_some q
  obtain ⟨v, e1, sr⟩ := st.rep i r er
  refine Calls.spliced_cons (eval_name J hN hv e1 hd hcd fun u s1 J1 ru => ?_)
  cases r with
  | val d =>
    refine thn (hr.run pos' pins s1 σ I H F σs _ ES J1 st tx q) fun us s2 ⟨vs, as, I2, H2, F2, σ2, h2, rv, pv, q2⟩ => ?_
    exact ⟨v :: vs, .d d :: as, I2, H2, F2, σ2, h2, .cons ru rv, ⟨sr.val_inv.2.sub h2.evo.up, pv⟩, q2⟩
  | _ =>
    refine thn (hr.run pos' pins s1 σ I H F σs _ ES J1 st tx q) fun us s2 ⟨vs, as, I2, H2, F2, σ2, h2, rv, pv, q2⟩ => ?_
    exact ⟨v :: vs, .s i :: as, I2, H2, F2, σ2, h2, .cons ru rv, ⟨e1, pv⟩, q2⟩
end

/-! ### the callee runs -/
def sCall (sp : Sps) (t : TCs) : TEs := fun σs Q ES => t σs (fun as σ1 => lentOk as [] = true ∧ nd (argS σ1 as) fun ss => sp ss (fun r ss' => Q r (back as ss' σ1)) (fun cls ed => ES cls ed (lose as σ1))) ES
section
variable {X : Cx} {ar : Nat → Option V} {pins : List (Addr × Obj)} {σ : L2.St} {I H : Hp} {F : Nat → List Addr} {σs : SSt} {s : Shared} {k : Nat} {f : Addr} {fd : FuncData} {ps : List Str} {sp : Sps}
/-- the objects of the arguments -/
def lentF (as : List Arg) (F : Nat → List Addr) : Nat → List Addr := fun k => match as[k]? with
  | some (.s i) => F i
  | _ => []
theorem own_lent {as : List Arg} {a : Addr} (m : own (lentF as F) a) : own F a := by
  obtain ⟨k, m⟩ := m
  unfold lentF at m
  split at m
  · exact ⟨_, m⟩
  · cases m
theorem run_fnS (G : FnG X.prog X.w X.K X.mg X.base k f fd ps sp) (hr : Room k X.A) (hg : X.A.guards = some []) (hb : Binds X.K fd ps []) {us : List Value} {vs : List V} {as : List Arg} {ss : List S} {Q : KS} {ES : XS}
    (J : Inv X pins σ H s) (st : StR X.K ar I H σ σs F) (tx : TX X ar I H (own F) ES) (rv : Vals vs us) (ca : CAs X.K I σ vs as) (hl : lentOk as [] = true) (ea : argS σs as = some ss)
    (q : sp ss (fun r ss' => Q r (back as ss' σs)) (fun cls ed => ES cls ed (lose as σs))) : wpAny (model X.prog X.w) X.A (call (.ref f) us) (RP X ar pins σ false true I H F σs Q) X.xe s := by
  have lss := argS_length ea
  have lvs := ca.length
  have lps : us.length = ps.length := by rw [← rv.length, lvs, ← lss]; exact G.len _ _ _ q
  -- the callee's own state
  have st0 : StR X.K (arV vs) I H (vs.map some) (ss.map some) (lentF as F) := by
    refine ⟨st.sub, fun j r h => ?_, fun j h => ?_, fun i j a m m' => ?_, fun j a m => st.ownI (own_lent ⟨j, m⟩), fun j v r h1 h2 => ?_, by simp [lss, lvs]⟩
    · rw [gets_map] at h
      rcases argS_get ea h with ⟨d, e1, e2⟩ | ⟨i, e1, e2, _⟩
      · obtain ⟨v, e3, p⟩ := ca.getD e1
        subst e2
        refine ⟨v, by rw [List.getElem?_map, e3]; rfl, ?_⟩
        have : lentF as F j = [] := by unfold lentF; rw [e1]
        rw [this]
        exact .val p
      · obtain ⟨v, e3, e4⟩ := ca.getS e1
        obtain ⟨v', e5, sr⟩ := st.rep i r e2
        rw [e4] at e5
        cases e5
        refine ⟨v, by rw [List.getElem?_map, e3]; rfl, ?_⟩
        have : lentF as F j = F i := by unfold lentF; rw [e1]
        rw [this]
        exact sr
    · rw [gets_map] at h
      have e1 := h
      have : as[j]? = none := by
        rw [List.getElem?_eq_none_iff] at e1 ⊢
        omega
      unfold lentF
      rw [this]
    · unfold lentF at m m'
      split at m
      · rename_i i1 e1
        split at m'
        · rename_i i2 e2
          have := st.dis _ _ a m m'
          subst this
          have k1 := (lentIx_get hl).mpr e1
          have k2 := (lentIx_get hl).mpr e2
          rw [k1] at k2
          exact Option.some.inj k2
        · cases m'
      · cases m
    · exact .inr (by rw [List.getElem?_map, show vs[j]? = some v from h1]; rfl)
  have bt := hb s us J.kIn (by rw [List.append_nil]; exact lps)
  rw [List.append_nil] at bt
  refine wpAny_call (codeAny_mono (G.run X.A X.stack s H I (lentF as F) ⟨us, []⟩ us vs ss _ _ hr hg J.env0 bt rv st0 q) fun r s' hq => ?_)
  cases r with
  | error e =>
    obtain ⟨W, tk, hW⟩ := tx
    refine tk e s' (XE.of_call J (E := EQ X.K I H (lentF as F) _) (fun cls d H' hE => ?_) hq)
    obtain ⟨I', ed, ev, sb', hed, he⟩ := hE
    -- what the slots are still known to hold
    refine hW cls d σ I' H' (fun j => if (gets (lose as σs) j).isSome = true then F j else []) (lose as σs) ed ⟨ev.up, fun a x e n => ev.fr a x e fun z => n (own_lent z), fun a m => ?_, fun a x e => ?_⟩ ⟨sb', fun j r g => ?_, fun j g => ?_, fun i j a m m' => ?_, fun j a m => ?_, fun j v r g1 g2 => st.par j v r g1 (lose_some g2).1, by rw [lose_length]; exact st.len⟩ hed he
    · obtain ⟨j, m⟩ := m
      try dsimp only at m
      split at m
      · exact .inl ⟨j, m⟩
      · cases m
    · rcases ev.ni a x e with e | e | e
      · exact .inl e
      · exact .inr (.inl (own_lent e))
      · exact .inr (.inr e)
    · obtain ⟨g1, g2⟩ := lose_some g
      obtain ⟨v, e1, sr⟩ := st.rep j r g1
      refine ⟨v, e1, ?_⟩
      rw [if_pos (by rw [g]; rfl)]
      rcases g2 with ⟨d, rfl⟩ | g2
      · obtain ⟨e2, p⟩ := sr.val_inv
        rw [e2]
        exact .val (p.sub ev.up)
      · refine sr.keep ev.up fun a m x e => ev.fr a x e fun z => ?_
        obtain ⟨k, z⟩ := z
        unfold lentF at z
        split at z
        · rename_i i e3
          have := st.dis _ _ a m z
          subst this
          exact g2 k e3
        · cases z
    · try dsimp only
      rw [if_neg (by rw [g]; exact Bool.false_ne_true)]
    · try dsimp only at m m'
      split at m
      · split at m'
        · exact st.dis i j a m m'
        · cases m'
      · cases m
    · try dsimp only at m
      split at m
      · rename_i hs
        obtain ⟨r, g⟩ := Option.isSome_iff_exists.mp hs
        obtain ⟨g1, g2⟩ := lose_some g
        have nl : ¬ own (lentF as F) a := fun z => by
          obtain ⟨k, z⟩ := z
          unfold lentF at z
          split at z
          · rename_i i e3
            have := st.dis _ _ a m z
            subst this
            rcases g2 with ⟨d, rfl⟩ | g2
            · obtain ⟨v, _, sr⟩ := st.rep _ _ g1
              rw [sr.val_inv.1] at m
              cases m
            · exact g2 k e3
          · cases z
        cases e : I' a with
        | none => rfl
        | some x =>
          rcases ev.ni a x e with e | e | e
          · rw [st.notI j a m] at e
            cases e
          · exact absurd e nl
          · obtain ⟨y, e2⟩ := st.there ⟨j, m⟩
            rw [e] at e2
            cases e2
      · cases m
  | ok fl =>
    cases fl with
    | ret u =>
      obtain ⟨v, H', J', rr, r, R, I', F', ss', ev, st', sr, nf, nI, q'⟩ := J.after (show CE X.stack X.prog X.w H s _ u s' from hq)
      have lss' : as.length = ss'.length := by
        have := st'.len
        rw [List.length_map] at this
        omega
      -- the slots' own objects behind the call
      have nlent : ∀ {j : Nat} {a : Addr}, lentIx as j = none → a ∈ F j → ¬ own (lentF as F) a := fun {j a} e m z => by
        obtain ⟨k, z⟩ := z
        unfold lentF at z
        split at z
        · rename_i i e3
          have := st.dis _ _ a m z
          subst this
          rw [(lentIx_get hl).mpr e3] at e
          cases e
        · cases z
      have keepJ : ∀ {j : Nat} {a : Addr}, lentIx as j = none → a ∈ F j → ∀ x, H a = some x → H' a = some x := fun {j a} e m x h => ev.fr a x h (nlent e m)
      have notI : ∀ {j : Nat} {a : Addr}, lentIx as j = none → a ∈ F j → I' a = none := fun {j a} e m => by
        cases q0 : I' a with
        | none => rfl
        | some x =>
          rcases ev.ni a x q0 with z | z | z
          · rw [st.notI j a m] at z
            cases z
          · exact absurd z (nlent e m)
          · obtain ⟨y, e2⟩ := st.there ⟨j, m⟩
            rw [z] at e2
            cases e2
      have notN : ∀ {j : Nat} {a : Addr}, lentIx as j = none → a ∈ F j → ¬ (a ∈ R ∨ own F' a) := fun {j a} e m z => by
        rcases ev.nw a z with z | z
        · exact nlent e m z
        · obtain ⟨y, e2⟩ := st.there ⟨j, m⟩
          rw [z] at e2
          cases e2
      refine ⟨v, r, R, I', H', (fun j => match lentIx as j with
        | some k => F' k
        | none => F j), back as ss' σs, ⟨J', ⟨ev.up, fun a x e n => ev.fr a x e fun z => n (own_lent z), fun a m => ?_, fun a x e => ?_⟩, ⟨st'.sub, fun j r' g => ?_, fun j g => ?_, fun i j a m m' => ?_, fun j a m => ?_, fun j w r' g1 g2 => ?_, by rw [back_length]; exact st.len⟩, sr, fun _ a m z => ?_, nI, (fun z => Bool.noConfusion z)⟩, rr, q'⟩
      · have fromN : ∀ {c : Addr}, (c ∈ R ∨ own F' c) → own F c ∨ H c = none := fun z => by
          rcases ev.nw _ z with z | z
          · exact .inl (own_lent z)
          · exact .inr z
        rcases m with m | ⟨j, m⟩
        · exact fromN (.inl m)
        · try dsimp only at m
          split at m
          · exact fromN (.inr ⟨_, m⟩)
          · exact .inl ⟨j, m⟩
      · rcases ev.ni a x e with e | e | e
        · exact .inl e
        · exact .inr (.inl (own_lent e))
        · exact .inr (.inr e)
      · have hj : j < σs.length := by
          have := gets_some_lt g
          rw [back_length] at this
          exact this
        rw [back_get hl lss' hj] at g
        cases e : lentIx as j with
        | none =>
          rw [e] at g
          obtain ⟨w, e1, s1⟩ := st.rep j r' g
          exact ⟨w, e1, s1.keep ev.up fun a m x h => keepJ e m x h⟩
        | some k =>
          rw [e] at g
          obtain ⟨w, e1, s1⟩ := st'.rep k r' g
          obtain ⟨w2, e3, e4⟩ := ca.getS ((lentIx_get hl).mp e)
          rw [List.getElem?_map, e3] at e1
          cases e1
          exact ⟨w, e4, s1⟩
      · by_cases hj : j < σs.length
        · rw [back_get hl lss' hj] at g
          cases e : lentIx as j with
          | none =>
            rw [e] at g
            exact st.non j g
          | some k =>
            rw [e] at g
            exact st'.non k g
        · cases e : lentIx as j with
          | none =>
            refine st.non j ?_
            cases g3 : gets σs j with
            | none => rfl
            | some y => exact absurd (gets_some_lt g3) hj
          | some k =>
            obtain ⟨w2, e3, e4⟩ := ca.getS ((lentIx_get hl).mp e)
            have := (List.getElem?_eq_some_iff.mp e4).1
            rw [← st.len] at this
            exact absurd this hj
      · try dsimp only at m m'
        split at m
        · rename_i k1 e1
          split at m'
          · rename_i k2 e2
            have := st'.dis _ _ a m m'
            subst this
            have z1 := (lentIx_get hl).mp e1
            have z2 := (lentIx_get hl).mp e2
            rw [z1] at z2
            exact Arg.s.inj (Option.some.inj z2)
          · rename_i e2
            exact absurd (.inr ⟨_, m⟩) (notN e2 m')
        · rename_i e1
          split at m'
          · exact absurd (.inr ⟨_, m'⟩) (notN e1 m)
          · exact st.dis i j a m m'
      · try dsimp only at m
        split at m
        · exact st'.notI _ a m
        · rename_i e1
          exact notI e1 m
      · have hj : j < σs.length := by
          have := gets_some_lt g2
          rw [back_length] at this
          exact this
        rw [back_get hl lss' hj] at g2
        cases e : lentIx as j with
        | none =>
          rw [e] at g2
          exact st.par j w r' g1 g2
        | some k =>
          rw [e] at g2
          obtain ⟨w2, e3, e4⟩ := ca.getS ((lentIx_get hl).mp e)
          -- lent at the call: a name with own objects
          rcases argS_get ea (show ss[k]? = some _ from (List.getElem?_eq_getElem (by
            have := (List.getElem?_eq_some_iff.mp ((lentIx_get hl).mp e)).1
            omega))) with ⟨d, z1, _⟩ | ⟨i, z1, z2, z3⟩
          · rw [(lentIx_get hl).mp e] at z1
            cases z1
          · rw [(lentIx_get hl).mp e] at z1
            cases z1
            rcases st.par j w _ g1 z2 with ⟨d, ed⟩ | z
            · exact absurd ed (z3 d)
            · exact .inr z
      · obtain ⟨j, z⟩ := z
        dsimp only at z
        split at z
        · exact nf a m ⟨_, z⟩
        · rename_i e1
          exact notN e1 z (.inl m)
    | next => exact False.elim hq
    | brk => exact False.elim hq
    | cont => exact False.elim hq
end
end SV
/-! SvJ: the call of a def by its name; statements. -/
namespace SV
open PySem PySem.Spec PyProof.Rows L2

section
variable {X : Cx} {ar : Nat → Option V} {k : Nat} {f : Addr} {fd : FuncData} {ps : List Str} {sp : Sps} {x : Str} {p pos : Pos} {e : Expr} {es : List Expr} {t : TCs}
theorem je_call (G : FnG X.prog X.w X.K X.mg X.base k f fd ps sp) (hr : Room k X.A) (hgd : X.A.guards = some []) (hg : Gl X x) (hm : X.mg x = some (.ref f)) (hk : PySem.W.keepIn X.K (.ref f) = true) (hb : Binds X.K fd ps [])
    (ha : JC X ar (e :: es) t) (hdb : (x == ("__debug__" : Str)) = false := by decide) (he : starEach (e :: es) X.env = (false, eval e X.env) :: starEach es X.env := by rfl) (hpl : (backTo pos (starEach es X.env)).any (·.1) = false := by rfl) :
    JE X ar false true (.Call (.Name x p) (e :: es) [] pos) (sCall sp t) := by
  refine ⟨fun pins s σ I H F σs Q ES J st tx q => ?_⟩
  refine wpAny_Call_Name_kw (ld_glob J hg hm ?_ hdb)
  refine PySem.W.callWith_K (h₀ := X.base) J.ok.mod.kin hk (thn (ha.run pos pins s σ I H F σs _ ES J st tx q) fun us s1 ⟨vs, as, I1, H1, F1, σ1, d, rv, ca, hl, q2⟩ => ⟨d.inv.kIn, ?_⟩) he hpl
  obtain ⟨ss, ea, q3⟩ := nd_some q2
  refine thn (run_fnS G hr hgd hb d.inv d.st (tx.then d) rv ca hl ea q3) fun u s2 ⟨v, r, R, I2, H2, F2, σ2, d2, rr, q4⟩ => ?_
  exact ⟨v, r, R, I2, H2, F2, σ2, d.thenR d2, rr, q4⟩
theorem je_call0 (G : FnG X.prog X.w X.K X.mg X.base k f fd ps sp) (hr : Room k X.A) (hgd : X.A.guards = some []) (hg : Gl X x) (hm : X.mg x = some (.ref f)) (hk : PySem.W.keepIn X.K (.ref f) = true) (hb : Binds X.K fd ps [])
    (hdb : (x == ("__debug__" : Str)) = false := by decide) : JE X ar false true (.Call (.Name x p) [] [] pos) (sCall sp cNil) := by
  refine ⟨fun pins s σ I H F σs Q ES J st tx q => ?_⟩
  refine wpAny_Call_Name_kw (ld_glob J hg hm ?_ hdb)
  obtain ⟨hl, q2⟩ := (show lentOk [] [] = true ∧ nd (argS σs []) _ from q)
  obtain ⟨ss, ea, q3⟩ := nd_some q2
  exact PySem.W.callWith_K0 J.kIn hk (run_fnS (us := []) (vs := []) (as := []) G hr hgd hb J st tx .nil trivial hl ea q3)
end

/-! ### statements -/
structure Es where
  nx : SSt → Prop
  rt : QS
  bk : SSt → Prop := fun _ => False
  ct : SSt → Prop := fun _ => False
abbrev TSs := SSt → Es → XS → Prop
/-- what stands behind a statement -/
def Bh (X : Cx) (ar : Nat → Option V) (I H : Hp) (F : Nat → List Addr) (N : SSt → Prop) : L2.St → Hp → Prop := fun σ' H' =>
  ∃ I' F' σs', Evo I H (own F) I' H' (own F') ∧ StR X.K ar I' H' σ' σs' F' ∧ N σs'
def Rt (X : Cx) (ar : Nat → Option V) (I H : Hp) (F : Nat → List Addr) (Q : QS) : VK := fun v H' =>
  ∃ r R I' σ' F' σs', σ'.length = X.N.length ∧ Evo I H (own F) I' H' (fun a => a ∈ R ∨ own F' a) ∧ StR X.K ar I' H' σ' σs' F' ∧ SR X.K I' H' v r R ∧ (∀ a ∈ R, ¬ own F' a) ∧ (∀ a ∈ R, I' a = none) ∧ Q r σs'
/-- D is reached where Ds is -/
structure Rch (X : Cx) (ar : Nat → Option V) (I H : Hp) (F : Nat → List Addr) (Ds : Es) (D : Ends) : Prop where
  nx : ∀ σ' H', Bh X ar I H F Ds.nx σ' H' → D.nx σ' H'
  bk : ∀ σ' H', Bh X ar I H F Ds.bk σ' H' → D.bk σ' H'
  ct : ∀ σ' H', Bh X ar I H F Ds.ct σ' H' → D.ct σ' H'
  rt : ∀ v H', Rt X ar I H F Ds.rt v H' → D.rt v H'
def liS (X : Cx) (ar : Nat → Option V) (t : TSs) : TS := fun D σ H => ∃ I F σs Ds ES, StR X.K ar I H σ σs F ∧ TX X ar I H (own F) ES ∧ t σs Ds ES ∧ Rch X ar I H F Ds D
def JS (X : Cx) (ar : Nat → Option V) (st : Stmt) (t : TSs) : Prop := PS X st (liS X ar t)
def JSs (X : Cx) (ar : Nat → Option V) (st : List Stmt) (t : TSs) : Prop := PSs X st (liS X ar t)
theorem PS.mono {X : Cx} {st : Stmt} {t t' : TS} (h : PS X st t) (i : ∀ D σ H, t' D σ H → t D σ H) : PS X st t' := ⟨fun pins s σ H D J q => h.run pins s σ H D J (i D σ H q)⟩
theorem PSs.mono {X : Cx} {st : List Stmt} {t t' : TS} (h : PSs X st t) (i : ∀ D σ H, t' D σ H → t D σ H) : PSs X st t' := ⟨fun pins s σ H D J q => h.run pins s σ H D J (i D σ H q)⟩
def liE (X : Cx) (ar : Nat → Option V) (m : Bool) (t : TEs) : TE := fun σ H Q => ∃ I F σs Qk ES, StR X.K ar I H σ σs F ∧ TX X ar I H (own F) ES ∧ t σs Qk ES ∧
  ∀ v r R I' H' F' σs', Evo I H (own F) I' H' (fun a => a ∈ R ∨ own F' a) → StR X.K ar I' H' σ σs' F' → SR X.K I' H' v r R → (m = true → ∀ a ∈ R, ¬ own F' a) → (∀ a ∈ R, I' a = none) → Qk r σs' → Q v H'
theorem JE.pe {X : Cx} {ar : Nat → Option V} {b m : Bool} {e : Expr} {t : TEs} (h : JE X ar b m e t) : PE X e (liE X ar m t) :=
  ⟨fun pins s σ H Q J ⟨I, F, σs, Qk, ES, st, tx, q, f⟩ => thn (h.run pins s σ I H F σs Qk ES J st tx q) fun u s' ⟨v, r, R, I', H', F', σs', d, rv, q'⟩ =>
    ⟨v, H', d.inv, rv, f v r R I' H' F' σs' d.evo d.st d.sr d.nf d.nI q'⟩⟩
def liT (X : Cx) (ar : Nat → Option V) (t : TTs) : TT := fun σ H Q => ∃ I F σs Qk ES, StR X.K ar I H σ σs F ∧ TX X ar I H (own F) ES ∧ t σs Qk ES ∧
  ∀ c I' H' F' σs', Evo I H (own F) I' H' (own F') → StR X.K ar I' H' σ σs' F' → Qk c σs' → Q c H'
theorem JT.pt {X : Cx} {ar : Nat → Option V} {b : Bool} {e : Expr} {t : TTs} (h : JT X ar b e t) : PT X e (liT X ar t) :=
  ⟨fun pins s σ H Q J ⟨I, F, σs, Qk, ES, st, tx, q, f⟩ => thn (h.run pins s σ I H F σs Qk ES J st tx q) fun c s' ⟨I', H', F', σs', d, q'⟩ =>
    ⟨H', d.inv, f c I' H' F' σs' d.evo d.st q'⟩⟩

section
variable {X : Cx} {ar : Nat → Option V} {I H I1 H1 : Hp} {F F1 : Nat → List Addr} {Ds : Es} {D : Ends}
theorem Bh.go {N : SSt → Prop} (ev : Evo I H (own F) I1 H1 (own F1)) {σ' : L2.St} {H' : Hp} (h : Bh X ar I1 H1 F1 N σ' H') : Bh X ar I H F N σ' H' := by
  obtain ⟨I', F', σs', e2, st, q⟩ := h
  exact ⟨I', F', σs', ev.trans e2 (fun _ z => z) (fun _ z => .inr z), st, q⟩
theorem Rt.go {Q : QS} (ev : Evo I H (own F) I1 H1 (own F1)) {v : V} {H' : Hp} (h : Rt X ar I1 H1 F1 Q v H') : Rt X ar I H F Q v H' := by
  obtain ⟨r, R, I', σ', F', σs', hn, e2, st, q⟩ := h
  exact ⟨r, R, I', σ', F', σs', hn, ev.trans e2 (fun _ z => z) (fun _ z => .inr z), st, q⟩
theorem Rch.go (h : Rch X ar I H F Ds D) (ev : Evo I H (own F) I1 H1 (own F1)) : Rch X ar I1 H1 F1 Ds D :=
  ⟨fun σ' H' q => h.nx σ' H' (q.go ev), fun σ' H' q => h.bk σ' H' (q.go ev), fun σ' H' q => h.ct σ' H' (q.go ev), fun v H' q => h.rt v H' (q.go ev)⟩
theorem Rch.self (Ds : Es) : Rch X ar I H F Ds { nx := Bh X ar I H F Ds.nx, rt := Rt X ar I H F Ds.rt, bk := Bh X ar I H F Ds.bk, ct := Bh X ar I H F Ds.ct } :=
  ⟨fun _ _ q => q, fun _ _ q => q, fun _ _ q => q, fun _ _ q => q⟩
end

section
variable {X : Cx} {ar : Nat → Option V} {st : Stmt} {rest : List Stmt} {t u : TSs} {e : Expr} {te : TEs} {b1 : Bool} {pos : Pos}
def sNext : TSs := fun σs D _ => D.nx σs
def sSeq (t u : TSs) : TSs := fun σs D ES => t σs { D with nx := fun σ1 => u σ1 D ES } ES
theorem jss_nil : JSs X ar [] sNext := PSs.mono pss_nil fun D σ H ⟨I, F, σs, Ds, ES, st, tx, q, r⟩ => r.nx σ H ⟨I, F, σs, .refl _ _ _, st, q⟩
theorem jss_cons (h1 : JS X ar st t) (h2 : JSs X ar rest u) : JSs X ar (st :: rest) (sSeq t u) :=
  PSs.mono (pss_cons h1 h2) fun D σ H ⟨I, F, σs, Ds, ES, st, tx, q, r⟩ =>
    ⟨I, F, σs, { Ds with nx := fun σ1 => u σ1 Ds ES }, ES, st, tx, q, ⟨fun σ' H' ⟨I', F', σs', ev, st', q'⟩ => ⟨I', F', σs', Ds, ES, st', tx.go ev (fun _ z => z), q', r.go ev⟩, r.bk, r.ct, r.rt⟩⟩
theorem jss_one (h1 : JS X ar st t) : JSs X ar [st] t := pss_one h1
theorem js_pass : JS X ar (.Pass pos) sNext := PS.mono ps_pass fun D σ H ⟨I, F, σs, Ds, ES, st, tx, q, r⟩ => r.nx σ H ⟨I, F, σs, .refl _ _ _, st, q⟩
def sBreak : TSs := fun σs D _ => D.bk σs
def sCont : TSs := fun σs D _ => D.ct σs
theorem js_break : JS X ar (.Break pos) sBreak := PS.mono ps_break fun D σ H ⟨I, F, σs, Ds, ES, st, tx, q, r⟩ => r.bk σ H ⟨I, F, σs, .refl _ _ _, st, q⟩
theorem js_cont : JS X ar (.Continue pos) sCont := PS.mono ps_continue fun D σ H ⟨I, F, σs, Ds, ES, st, tx, q, r⟩ => r.ct σ H ⟨I, F, σs, .refl _ _ _, st, q⟩
/-- what is left of an expression's own objects is dropped -/
theorem Evo.drop {I H I' H' : Hp} {o o' : Addr → Prop} {R : List Addr} (h : Evo I H o I' H' (fun a => a ∈ R ∨ o' a)) : Evo I H o I' H' o' := ⟨h.up, h.fr, fun a z => h.nw a (.inr z), h.ni⟩
def sDrop (te : TEs) : TSs := fun σs D ES => te σs (fun _ σ1 => D.nx σ1) ES
theorem js_expr {m : Bool} (he : JE X ar b1 m e te) (hs : swapsWith e none pos.line X.env = pure false := by rfl) : JS X ar (.Expr e pos) (sDrop te) :=
  PS.mono (ps_expr he.pe hs) fun D σ H ⟨I, F, σs, Ds, ES, st, tx, q, r⟩ =>
    ⟨I, F, σs, _, ES, st, tx, q, fun v r' R I' H' F' σs' ev st' sr nf nI q' => r.nx σ H' ⟨I', F', σs', ev.drop, st', q'⟩⟩
def sRet (te : TEs) : TSs := fun σs D ES => te σs D.rt ES
theorem js_ret (he : JE X ar b1 true e te) : JS X ar (.Return (some e) pos) (sRet te) :=
  ⟨fun pins s σ H D J ⟨I, F, σs, Ds, ES, st, tx, q, r⟩ => (ps_ret he.pe).run pins s σ H D J
    ⟨I, F, σs, _, ES, st, tx, q, fun v r' R I' H' F' σs' ev st' sr nf nI q' => r.rt v H' ⟨r', R, I', σ, F', σs', J.len, ev, st', sr, nf rfl, nI, q'⟩⟩⟩
def sRetN : TSs := fun σs D _ => D.rt (.val .none) σs
theorem js_retN : JS X ar (.Return none pos) sRetN :=
  ⟨fun pins s σ H D J ⟨I, F, σs, Ds, ES, st, tx, q, r⟩ => ps_retN.run pins s σ H D J <| r.rt .non H ⟨.val .none, [], I, σ, F, σs, J.len, ⟨.refl I, fun _ _ h _ => h, fun a z => by
    rcases z with z | z
    · cases z
    · exact .inl z, fun _ _ h => .inl h⟩, st, .val .non, fun a m => absurd m (by simp), fun a m => absurd m (by simp), q⟩⟩
def sIfS (c : TTs) (t u : TSs) : TSs := fun σs D ES => c σs (fun b σ1 => ifb b (t σ1 D ES) (u σ1 D ES)) ES
theorem js_if {c : Expr} {a b : List Stmt} {tc : TTs} (hc : JT X ar b1 c tc) (ha : JSs X ar a t) (hb : JSs X ar b u) : JS X ar (.If c a b pos) (sIfS tc t u) :=
  PS.mono (ps_if hc.pt ha hb) fun D σ H ⟨I, F, σs, Ds, ES, st, tx, q, r⟩ =>
    ⟨I, F, σs, _, ES, st, tx, q, fun c I' H' F' σs' ev st' q' => by
      cases c with
      | true => exact ⟨I', F', σs', Ds, ES, st', tx.go ev (fun _ z => z), q', r.go ev⟩
      | false => exact ⟨I', F', σs', Ds, ES, st', tx.go ev (fun _ z => z), q', r.go ev⟩⟩
def sNever : TSs := fun _ _ _ => False
theorem js_never : JS X ar st sNever := PS.mono ps_never fun D σ H ⟨I, F, σs, Ds, ES, st, tx, q, r⟩ => q
theorem jss_never {sts : List Stmt} : JSs X ar sts sNever := PSs.mono pss_never fun D σ H ⟨I, F, σs, Ds, ES, st, tx, q, r⟩ => q
/-- name = value; the value may be its own -/
def sSet (i : Nat) (te : TEs) : TSs := fun σs D ES => te σs (fun r σ1 => D.nx (sets σ1 i (some r))) ES
/-- name = value, made pure -/
def sSetV (i : Nat) (te : TEs) : TSs := fun σs D ES => te σs (fun r σ1 => nd r.toD fun d => D.nx (sets σ1 i (some (.val d)))) ES
theorem Evo.stored {I H I1 H1 : Hp} {F F1 : Nat → List Addr} {R : List Addr} {i : Nat} (ev : Evo I H (own F) I1 H1 (fun a => a ∈ R ∨ own F1 a)) : Evo I H (own F) I1 H1 (own (put1 F1 i R)) :=
  ⟨ev.up, ev.fr, fun a z => ev.nw a (own_put1 z), ev.ni⟩
theorem StR.lenN {K : PySem.W.Frag} {I H : Hp} {σ : L2.St} {σs : SSt} {F : Nat → List Addr} (st : StR K ar I H σ σs F) : σs.length = σ.length := st.len
theorem js_set {i : Nat} {x : Str} {pos' : Pos} (he : JE X ar b1 true e te) (hp : ar i = none) (hN : X.N.Nodup) (hi : X.N[i]? = some x) (hx : Loc X.env.scope x) (hs : swapsWith e (some (.Name x pos')) pos.line X.env = pure false := by rfl)
    (hf : X.fn x = true ∨ X.env.scope.names.lookup x = some .local := by first | exact .inl rfl | exact .inr rfl | assumption) : JS X ar (.Assign [.Name x pos'] e pos) (sSet i te) := by
  refine ⟨fun pins s σ H D J ⟨I, F, σs, Ds, ES, st, tx, q, r⟩ => ?_⟩
  have hl : i < σs.length := by rw [st.len, J.len]; exact (List.getElem?_eq_some_iff.mp hi).1
  refine (PS.mono (ps_set hN hi hx he.pe hs hf) fun D σ H z => z).run pins s σ H D J ⟨I, F, σs, _, ES, st, tx, q, fun v r' R I' H' F' σs' ev st' sr nf nI q' => ?_⟩
  exact r.nx _ _ ⟨I', put1 F' i R, _, ev.stored, st'.store (by rw [st'.len, ← st.len]; exact hl) sr (nf rfl) nI (.inr hp), q'⟩
theorem js_setv {i : Nat} {x : Str} {pos' : Pos} (he : JE X ar b1 true e te) (hN : X.N.Nodup) (hi : X.N[i]? = some x) (hx : Loc X.env.scope x) (hs : swapsWith e (some (.Name x pos')) pos.line X.env = pure false := by rfl)
    (hf : X.fn x = true ∨ X.env.scope.names.lookup x = some .local := by first | exact .inl rfl | exact .inr rfl | assumption) : JS X ar (.Assign [.Name x pos'] e pos) (sSetV i te) := by
  refine ⟨fun pins s σ H D J ⟨I, F, σs, Ds, ES, st, tx, q, r⟩ => ?_⟩
  have hl : i < σs.length := by rw [st.len, J.len]; exact (List.getElem?_eq_some_iff.mp hi).1
  refine (PS.mono (ps_set hN hi hx he.pe hs hf) fun D σ H z => z).run pins s σ H D J ⟨I, F, σs, _, ES, st, tx, q, fun v r' R I' H' F' σs' ev st' sr nf nI q' => ?_⟩
  obtain ⟨d, ed, q'⟩ := nd_some q'
  have n := nI
  have st2 : StR X.K ar (fz I' H' R) H' σ σs' F' := st'.keep (fz_sub st'.sub) (sub_fz n) (fun _ _ _ z => z) fun a m => by
    rw [fz_out fun z => nf rfl a z m]
    exact st'.ownI m
  have ev2 : Evo I H (own F) (fz I' H' R) H' (own F') := ⟨ev.up.trans (sub_fz n), ev.fr, fun a m => ev.nw a (.inr m), fun a x q => by
    unfold fz at q
    split at q
    · rename_i m
      exact .inr (ev.nw a (.inl m))
    · exact ev.ni a x q⟩
  exact r.nx _ _ ⟨_, put1 F' i [], _, ⟨ev2.up, ev2.fr, fun a z => by
    rcases own_put1 z with z | z
    · cases z
    · exact ev2.nw a z, ev2.ni⟩, st2.store (by rw [st'.len, ← st.len]; exact hl) (.val (sr.freeze ed n)) (fun a m => absurd m (by simp)) (fun a m => absurd m (by simp)) (.inl ⟨d, rfl⟩), q'⟩
end
end SV
/-! SvK: targets; what a loop walks; for, while; comprehensions. -/
namespace SV
open PySem PySem.Spec PyProof.Rows L2

/-! ### targets: pure data is stored -/
abbrev TGt := PyData → SSt → Option SSt
abbrev TGts := List PyData → SSt → Option SSt
def liG (X : Cx) (ar : Nat → Option V) (g : TGt) (ts : List Nat) : TG := fun v σ H Q => ∃ I F σs d σ1, StR X.K ar I H σ σs F ∧ PR X.K I v d ∧ g d σs = some σ1 ∧
  ∀ σ' F', σ'.length = σ.length → (∀ j, j ∉ ts → σ'[j]? = σ[j]?) → (∀ a, own F' a → own F a) → StR X.K ar I H σ' σ1 F' → Q σ' H
def liGs (X : Cx) (ar : Nat → Option V) (g : TGts) (ts : List Nat) : TGs := fun vs σ H Q => ∃ I F σs ds σ1, StR X.K ar I H σ σs F ∧ PRs X.K I vs ds ∧ g ds σs = some σ1 ∧
  ∀ σ' F', σ'.length = σ.length → (∀ j, j ∉ ts → σ'[j]? = σ[j]?) → (∀ a, own F' a → own F a) → StR X.K ar I H σ' σ1 F' → Q σ' H
def JG (X : Cx) (ar : Nat → Option V) (tg : Expr) (g : TGt) (ts : List Nat) : Prop := PG X tg (liG X ar g ts)
def JGs (X : Cx) (ar : Nat → Option V) (tgs : List Expr) (g : TGts) (ts : List Nat) : Prop := PGs X tgs (liGs X ar g ts)
theorem PG.mono {X : Cx} {tg : Expr} {t t' : TG} (h : PG X tg t) (i : ∀ v σ H Q, t' v σ H Q → t v σ H Q) : PG X tg t' := ⟨fun pins s σ H v u Q J rv q => h.run pins s σ H v u Q J rv (i v σ H Q q)⟩
theorem PGs.mono {X : Cx} {tg : List Expr} {t t' : TGs} (h : PGs X tg t) (i : ∀ v σ H Q, t' v σ H Q → t v σ H Q) : PGs X tg t' := ⟨fun pins s σ H v u Q J rv q => h.run pins s σ H v u Q J rv (i v σ H Q q)⟩
def gVar (i : Nat) : TGt := fun d σs => if i < σs.length then some (sets σs i (some (.val d))) else none
def gSeq (g : TGts) : TGt := fun d σs => match d with
  | .tuple ds => g ds σs
  | _ => none
def gsNil : TGts := fun ds σs => match ds with
  | [] => some σs
  | _ => none
def gsCons (g : TGt) (r : TGts) : TGts := fun ds σs => match ds with
  | d :: ds => (g d σs).bind fun σ1 => r ds σ1
  | [] => none
section
variable {X : Cx} {ar : Nat → Option V} {pos : Pos}
theorem jg_name {i : Nat} {x : Str} (hN : X.N.Nodup) (hi : X.N[i]? = some x) (hx : Loc X.env.scope x) (hf : X.fn x = true ∨ X.env.scope.names.lookup x = some .local := by first | exact .inl rfl | exact .inr rfl | assumption) : JG X ar (.Name x pos) (gVar i) [i] := by
  refine PG.mono (pg_name hN hi hx hf) fun v σ H Q ⟨I, F, σs, d, σ1, st, pr, e, f⟩ => ?_
  unfold gVar at e
  split at e
  · rename_i hl
    cases e
    refine f (σ.set i (some v)) (put1 F i []) (by simp) (fun j hj => ?_) (fun a m => ?_) (st.store hl (.val pr) (fun a m => absurd m (by simp)) (fun a m => absurd m (by simp)) (.inl ⟨d, rfl⟩))
    · rw [List.getElem?_set_ne (by simpa using fun e => hj (by simp [e]))]
    · rcases own_put1 m with m | m
      · cases m
      · exact m
  · cases e
theorem jgs_nil : JGs X ar [] gsNil [] := by
  refine PGs.mono pgs_nil fun vs σ H Q ⟨I, F, σs, ds, σ1, st, pr, e, f⟩ => ?_
  cases pr with
  | nil =>
    cases e
    exact ⟨rfl, f σ F rfl (fun _ _ => rfl) (fun _ m => m) st⟩
  | cons _ _ => cases e
theorem jgs_cons {e : Expr} {es : List Expr} {g : TGt} {r : TGts} {ts ts' : List Nat} (h1 : JG X ar e g ts) (h2 : JGs X ar es r ts') (hs : (assignEach (e :: es) X.env).map (·.2) = assign e X.env :: (assignEach es X.env).map (·.2) := by rfl) : JGs X ar (e :: es) (gsCons g r) (ts ++ ts') := by
  refine PGs.mono (pgs_cons h1 h2 hs) fun vs σ H Q ⟨I, F, σs, ds, σ1, st, pr, e, f⟩ => ?_
  cases pr with
  | nil => cases e
  | cons p1 p2 =>
    obtain ⟨σ2, e1, e2⟩ := Option.bind_eq_some_iff.mp (show (g _ σs).bind (fun σ1 => r _ σ1) = some σ1 from e)
    refine ⟨_, _, rfl, I, F, σs, _, σ2, st, p1, e1, fun σ' F' l k o st' => ?_⟩
    refine ⟨I, F', σ2, _, σ1, st', p2, e2, fun σ'' F'' l' k' o' st'' => ?_⟩
    refine f σ'' F'' (l'.trans l) (fun j hj => ?_) (fun a m => o a (o' a m)) st''
    rw [List.mem_append, not_or] at hj
    rw [k' j hj.2, k j hj.1]
theorem jg_tup {es : List Expr} {k : Nat} {g : TGts} {ts : List Nat} {n : Nat} (hc : X.calm = true) (h : JGs X ar es g ts) (hl : ∀ ds σs σ1, g ds σs = some σ1 → ds.length = n) (hn : (assignEach es X.env).length = n := by rfl) (hst : (assignEach es X.env).findIdx? (·.1) = none := by rfl) :
    JG X ar (.Tuple es k pos) (gSeq g) ts := by
  refine PG.mono (pg_tup hc h hn hst) fun v σ H Q ⟨I, F, σs, d, σ1, st, pr, e, f⟩ => ?_
  cases pr with
  | tup hq p => exact ⟨_, _, rfl, SqT.sub st.sub hq, by rw [p.length]; exact hl _ _ _ e, I, F, σs, _, σ1, st, p, e, f⟩
  | _ => cases e
theorem len_nil : ∀ (ds : List PyData) (σs σ1 : SSt), gsNil ds σs = some σ1 → ds.length = 0
  | [], _, _, _ => rfl
  | _ :: _, _, _, h => by cases h
theorem len_cons {g : TGt} {r : TGts} {n : Nat} (h : ∀ ds σs σ1, r ds σs = some σ1 → ds.length = n) : ∀ ds σs σ1, gsCons g r ds σs = some σ1 → ds.length = n + 1
  | [], _, _, h => by cases h
  | d :: ds, σs, σ1, e => by
    obtain ⟨σ2, e1, e2⟩ := Option.bind_eq_some_iff.mp (show (g d σs).bind (fun σ1 => r ds σ1) = some σ1 from e)
    simp [h ds σ2 σ1 e2]
end

/-! ### what is walked -/
structure Walk (K : PySem.W.Frag) (I : Hp) (J : It) (ds : List PyData) : Prop where
  go : ∀ I1 H1, Sub I I1 → Sub I1 H1 → ∀ i d, ds[i]? = some d → J.go i H1 ∧ ∀ x H3, J.yld i H1 x H3 → ∃ I3, Sub I1 I3 ∧ Sub I3 H3 ∧ Sub H1 H3 ∧ (∀ a y, I3 a = some y → I1 a = some y ∨ H1 a = none) ∧ PR K I3 x d
  stop : ∀ I1 H1, Sub I I1 → Sub I1 H1 → ∀ i, ds.length ≤ i → J.stop i H1
theorem Walk.list {K : PySem.W.Frag} {I : Hp} {a : Addr} {vs : List V} {ds : List PyData} (h : SqL K I a vs) (p : PRs K I vs ds) : Walk K I (Itl K a) ds := by
  refine ⟨fun I1 H1 s1 s2 i d e => ?_, fun I1 H1 s1 s2 i hi => ⟨vs, SqL.sub s2 (SqL.sub s1 h), by rw [p.length]; exact hi⟩⟩
  obtain ⟨v, ev, pv⟩ := p.get e
  have hq := SqL.sub s2 (SqL.sub s1 h)
  refine ⟨⟨vs, v, hq, ev⟩, fun x H3 ⟨eH, hx⟩ => ?_⟩
  subst eH
  have := hx vs hq
  rw [ev] at this
  cases this
  exact ⟨I1, .refl _, s2, .refl _, fun _ _ z => .inl z, pv.sub s1⟩
theorem Walk.tup {K : PySem.W.Frag} {I : Hp} {a : Addr} {vs : List V} {ds : List PyData} (h : SqT K I a vs) (p : PRs K I vs ds) : Walk K I (Itt K a) ds := by
  refine ⟨fun I1 H1 s1 s2 i d e => ?_, fun I1 H1 s1 s2 i hi => ⟨vs, SqT.sub s2 (SqT.sub s1 h), by rw [p.length]; exact hi⟩⟩
  obtain ⟨v, ev, pv⟩ := p.get e
  have hq := SqT.sub s2 (SqT.sub s1 h)
  refine ⟨⟨vs, v, hq, ev⟩, fun x H3 ⟨eH, hx⟩ => ?_⟩
  subst eH
  have := hx vs hq
  rw [ev] at this
  cases this
  exact ⟨I1, .refl _, s2, .refl _, fun _ _ z => .inl z, pv.sub s1⟩
def chrD (x : Str) : List PyData := x.cps.toList.map fun c => .str ⟨#[c]⟩
theorem Walk.str {K : PySem.W.Frag} {I : Hp} {x : Str} (ok : PyData.strOk x = true) : Walk K I (Its x) (chrD x) := by
  refine ⟨fun I1 H1 s1 s2 i d e => ?_, fun I1 H1 s1 s2 i hi => by
    show x.cps.size ≤ i
    simpa [chrD] using hi⟩
  have hi : i < x.cps.size := by
    have := (List.getElem?_eq_some_iff.mp e).1
    simpa [chrD] using this
  refine ⟨hi, fun v H3 ⟨eH, c, ec, ev⟩ => ?_⟩
  subst eH ev
  have ed : d = .str ⟨#[c]⟩ := by
    unfold chrD at e
    rw [List.getElem?_map, Array.getElem?_toList, ec] at e
    exact (Option.some.inj e).symm
  subst ed
  refine ⟨I1, .refl _, s2, .refl _, fun _ _ z => .inl z, .str _ ?_ (by show 1 ≤ sizeLine; decide)⟩
  rw [strOk_iff] at ok ⊢
  intro c' hc'
  have : c' = c := by simpa using hc'
  subst this
  exact ok _ (by
    have := Array.mem_of_getElem? ec
    simpa using this)
def rangeD (lo hi : Int) : List PyData := (List.range (hi - lo).toNat).map fun i => .int (lo + (i : Nat))
theorem Walk.range {K : PySem.W.Frag} {I : Hp} {lo hi : Int} : Walk K I (Itr lo (hi - lo).toNat) (rangeD lo hi) := by
  refine ⟨fun I1 H1 s1 s2 i d e => ?_, fun I1 H1 s1 s2 i hk => by
    show (hi - lo).toNat ≤ i
    unfold rangeD at hk
    rw [List.length_map, List.length_range] at hk
    exact hk⟩
  have hi : i < (hi - lo).toNat := by
    have := (List.getElem?_eq_some_iff.mp e).1
    simpa [rangeD] using this
  refine ⟨hi, fun v H3 ⟨eH, ev⟩ => ?_⟩
  subst eH ev
  have ed : d = .int (lo + (i : Nat)) := by
    unfold rangeD at e
    rw [List.getElem?_map, List.getElem?_range hi] at e
    exact (Option.some.inj e).symm
  subst ed
  exact ⟨I1, .refl _, s2, .refl _, fun _ _ z => .inl z, .int _⟩

abbrev TIs := SSt → (List PyData → SSt → Prop) → XS → Prop
def liI (X : Cx) (ar : Nat → Option V) (ti : TIs) : TI := fun σ H R => ∃ I F σs Qk ES, StR X.K ar I H σ σs F ∧ TX X ar I H (own F) ES ∧ ti σs Qk ES ∧
  ∀ I' H' F' σs' ds J, Evo I H (own F) I' H' (own F') → StR X.K ar I' H' σ σs' F' → Walk X.K I' J ds → Qk ds σs' → R J H'
def JI (X : Cx) (ar : Nat → Option V) (tg iter : Expr) (ti : TIs) : Prop := PI X tg iter (liI X ar ti)
theorem PI.mono {X : Cx} {tg e : Expr} {t t' : TI} (h : PI X tg e t) (i : ∀ σ H R, t' σ H R → t σ H R) : PI X tg e t' := ⟨fun pins s σ H R J q => h.run pins s σ H R J (i σ H R q)⟩
def sItems (m : Bool) : S → Option (List PyData)
  | .val (.list ds) => some ds
  | .val (.tuple ds) => some ds
  | .val (.str x) => some (chrD x)
  | .lst ds => if m = true then some ds else none
  | .scr ns => some (ns.map .int)
  | _ => none
def iSeq (m : Bool) (te : TEs) : TIs := fun σs Q ES => te σs (fun r σ1 => nd (sItems m r) fun ds => Q ds σ1) ES
def iRg1 (te : TEs) : TIs := fun σs Q ES => te σs (fun r σ1 => match r with
  | .val (.int j) => (-(2 ^ 62) ≤ j ∧ j < 2 ^ 62) ∧ Q (rangeD 0 j) σ1
  | _ => False) ES
section
variable {X : Cx} {ar : Nat → Option V} {tg e : Expr} {te : TEs} {b m : Bool} {p pos : Pos}
theorem it_list {pins : List (Addr × Obj)} {σ : L2.St} {H : Hp} {s : Shared} {a : Addr} {xs : List V} {R : It → Hp → Prop} {E : Value → Shared → Prop} (J : Inv X pins σ H s) (hq : SqL X.K H a xs) (q : R (Itl X.K a) H) :
    wpAny (model X.prog X.w) X.A (pyIter (.ref a)) (PIE X pins σ tg R) E s := by
  obtain ⟨its, rv, p, hz⟩ := J.list hq
  refine wpAny_pyIter_list p.isList (pi_one (tk := s.toks) J _ (turn_list a _) ⟨_, Heap.get?_push_size _ rfl, rfl, rfl⟩ q)
theorem it_tup {pins : List (Addr × Obj)} {σ : L2.St} {H : Hp} {s : Shared} {a : Addr} {xs : List V} {R : It → Hp → Prop} {E : Value → Shared → Prop} (J : Inv X pins σ H s) (hq : SqT X.K H a xs) (q : R (Itt X.K a) H) :
    wpAny (model X.prog X.w) X.A (pyIter (.ref a)) (PIE X pins σ tg R) E s := by
  obtain ⟨its, rv, p, hz⟩ := J.tuple hq
  refine wpAny_pyIter_tuple (show s.heap.IsTuple a its.toArray from p) (pi_one (tk := s.toks) J _ (turn_tuple a _) ⟨_, Heap.get?_push_size _ rfl, rfl, rfl⟩ q)
theorem it_str {pins : List (Addr × Obj)} {σ : L2.St} {H : Hp} {s : Shared} {x : Str} {t : Tok} {R : It → Hp → Prop} {E : Value → Shared → Prop} (J : Inv X pins σ H s) (q : R (Its x) H) :
    wpAny (model X.prog X.w) X.A (pyIter (.str x t)) (PIE X pins σ tg R) E s := by
  cases ha : x.cps.all (· < 128)
  · exact wpAny_pyIter_wide ha (pi_one (tk := s.toks) J _ (turn_str _ x t "str_iterator" (.inr rfl)) ⟨_, Heap.get?_push_size _ rfl, rfl, rfl⟩ q)
  · exact wpAny_pyIter_ascii ha (pi_one (tk := s.toks) J _ (turn_str _ x t "str_ascii_iterator" (.inl rfl)) ⟨_, Heap.get?_push_size _ rfl, rfl, rfl⟩ q)
theorem ji_seq (he : JE X ar b m e te) : JI X ar tg e (iSeq m te) := by
  refine ⟨fun pins s σ H R J ⟨I, F, σs, Qk, ES, st, tx, q, f⟩ => ?_⟩
  refine thn (he.run pins s σ I H F σs _ ES J st tx q) fun u s1 ⟨v, r, Rr, I1, H1, F1, σ1, d, rv, q1⟩ => ?_
  obtain ⟨ds, ed, q1⟩ := nd_some q1
  have sr := d.sr
  cases r with
  | val y =>
    obtain ⟨eR, pr⟩ := sr.val_inv
    subst eR
    have ev : Evo I H (own F) I1 H1 (own F1) := d.evo.drop
    cases pr with
    | lst h p2 =>
      cases ed
      cases rv
      exact it_list d.inv (SqL.of (d.st.sub _ _ h)) (f I1 H1 F1 σ1 _ _ ev d.st (.list (SqL.of h) p2) q1)
    | tup h p2 =>
      cases ed
      cases rv
      exact it_tup d.inv (SqT.sub d.st.sub h) (f I1 H1 F1 σ1 _ _ ev d.st (.tup h p2) q1)
    | str x ok hz =>
      cases ed
      obtain ⟨t, rfl⟩ := rv
      exact it_str d.inv (f I1 H1 F1 σ1 _ _ ev d.st (.str ok) q1)
    | _ => cases ed
  | lst ds0 =>
    have hm : m = true := by
      have ed' : (if m = true then some ds0 else none) = some ds := ed
      by_cases h : m = true
      · exact h
      · rw [if_neg h] at ed'
        cases ed'
    subst hm
    obtain ⟨hb, pr⟩ := d.freeze (d := .list ds0) rfl
    cases ed
    cases pr with
    | lst h p2 =>
      cases rv
      exact it_list hb.inv (SqL.of (hb.st.sub _ _ h)) (f _ H1 F1 σ1 _ _ hb.evo hb.st (.list (SqL.of h) p2) q1)
  | scr ns =>
    cases ed
    generalize e0 : S.scr ns = r0 at sr
    cases sr with
    | scr hq =>
      cases e0
      cases rv
      exact it_list d.inv (SqL.sub d.st.sub hq) (f I1 H1 F1 σ1 _ _ d.evo.drop d.st (.list hq (PRs.ints _)) q1)
    | _ => cases e0
  | _ => cases ed
theorem ji_range1 (hg : Gl X "range") (hm : X.mg "range" = none) (he : JE X ar b m e te) (hs : starEach [e] X.env = [(false, eval e X.env)] := by rfl) : JI X ar tg (.Call (.Name "range" p) [e] [] pos) (iRg1 te) := by
  refine PI.mono (pi_range1 hg hm (pa_cons he.pe pa_nil hs) hs) fun σ H R ⟨I, F, σs, Qk, ES, st, tx, q, f⟩ => ?_
  refine ⟨I, F, σs, _, ES, st, tx, q, fun v r R' I' H' F' σs' ev st' sr nf nI q' => ?_⟩
  cases r with
  | val y =>
    obtain ⟨eR, pr⟩ := sr.val_inv
    subst eR
    cases y with
    | int j =>
      cases pr
      exact ⟨j, rfl, q'.1.1, q'.1.2, f I' H' F' σs' _ _ ev.drop st' (by simpa using Walk.range (lo := 0) (hi := j)) q'.2⟩
    | _ => exact q'.elim
  | _ => exact q'.elim
end

/-! ### for, while -/
def forT (g : TGt) (tb : TSs) : List PyData → TSs
  | [], σs, D, _ => D.nx σs
  | d :: ds, σs, D, ES => nd (g d σs) fun σ1 => tb σ1 { D with nx := fun σ2 => forT g tb ds σ2 D ES, ct := fun σ2 => forT g tb ds σ2 D ES, bk := D.nx } ES
def sFor (ti : TIs) (g : TGt) (tb : TSs) : TSs := fun σs D ES => ti σs (fun ds σ1 => forT g tb ds σ1 D ES) ES
def whileT (c : TTs) (tb : TSs) : Nat → TSs
  | 0, _, _, _ => False
  | n + 1, σs, D, ES => c σs (fun b σ1 => ifb b (tb σ1 { D with nx := fun σ2 => whileT c tb n σ2 D ES, ct := fun σ2 => whileT c tb n σ2 D ES, bk := D.nx } ES) (D.nx σ1)) ES
def sWhile (c : TTs) (tb : TSs) : TSs := fun σs D ES => ∃ n, whileT c tb n σs D ES
section
variable {X : Cx} {ar : Nat → Option V} {tg iter c : Expr} {body : List Stmt} {ti : TIs} {g : TGt} {ts : List Nat} {tc : TTs} {tb : TSs} {b1 : Bool} {pos : Pos}
theorem Evo.sameo {I H I1 H1 : Hp} {o o1 o2 : Addr → Prop} (h : Evo I H o I1 H1 o1) (k : ∀ a, o2 a → o1 a) : Evo I H o I1 H1 o2 := ⟨h.up, h.fr, fun a z => h.nw a (k a z), h.ni⟩
theorem js_for (hp : PassesOwn (model X.prog X.w) X.A X.env X.xe) (hc : X.calm = true) (hi : JI X ar tg iter ti) (hg : JG X ar tg g ts) (hb : JSs X ar body tb) (hs : ∀ x, foldedSetIterable iter X.env x = pure x := by intro _; rfl) :
    JS X ar (.For tg iter body [] pos) (sFor ti g tb) := by
  refine PS.mono (ps_for hp hc hi hg hb hs) fun D σ H ⟨I, F, σs, Ds, ES, st, tx, q, r⟩ => ?_
  refine ⟨I, F, σs, _, ES, st, tx, q, fun I1 H1 F1 σ1 ds J ev st1 W q1 => ?_⟩
  refine ⟨fun i n σ' H' => n = ds.length - i ∧ i ≤ ds.length ∧ ∃ I' F' σs', Evo I H (own F) I' H' (own F') ∧ Sub I1 I' ∧ StR X.K ar I' H' σ' σs' F' ∧ forT g tb (ds.drop i) σs' Ds ES, ⟨ds.length, by simp, Nat.zero_le _, I1, F1, σ1, ev, .refl _, st1, by simpa using q1⟩, ?_⟩
  rintro i n σ' H' ⟨rfl, hi, I', F', σs', ev', sb', st', q'⟩
  by_cases hlt : i < ds.length
  · have eg : ds[i]? = some ds[i] := List.getElem?_eq_getElem hlt
    rw [List.drop_eq_getElem_cons hlt] at q'
    obtain ⟨σ2, e2, q2⟩ := nd_some q'
    obtain ⟨go, yl⟩ := W.go I' H' sb' st'.sub i _ eg
    refine .inr ⟨go, fun σ'' H'' => i + 1 ≤ ds.length ∧ ∃ I'' F'' σs'', Evo I H (own F) I'' H'' (own F'') ∧ Sub I1 I'' ∧ StR X.K ar I'' H'' σ'' σs'' F'' ∧ forT g tb (ds.drop (i + 1)) σs'' Ds ES, fun σ'' H'' z => ⟨ds.length - (i + 1), by omega, rfl, z.1, z.2⟩, fun x H3 y3 => ?_⟩
    obtain ⟨I3, u1, u2, u3, u4, px⟩ := yl x H3 y3
    have ev3 : Evo I' H' (own F') I3 H3 (own F') := ⟨u1, fun a x e _ => u3 a x e, fun a z => .inl z, fun a y e => (u4 a y e).imp id .inr⟩
    have st3 : StR X.K ar I3 H3 σ' σs' F' := st'.keep u2 u1 (fun a _ x e => u3 a x e) fun a m => by
      cases e : I3 a with
      | none => rfl
      | some y =>
        rcases u4 a y e with e | e
        · rw [st'.ownI m] at e
          cases e
        · obtain ⟨z, e2⟩ := st'.there m
          rw [e] at e2
          cases e2
    refine ⟨I3, F', σs', _, σ2, st3, px, e2, fun σ4 F4 l4 k4 o4 st4 => ?_⟩
    have ev4 : Evo I H (own F) I3 H3 (own F4) := (ev'.trans ev3 (fun _ z => z) (fun _ z => .inr z)).sameo o4
    refine ⟨I3, F4, σ2, _, ES, st4, tx.go ev4 (fun _ z => z), q2, ⟨fun σ'' H'' ⟨I'', F'', σs'', e, s, q⟩ => ?_, fun σ'' H'' z => r.nx _ _ (z.go ev4), fun σ'' H'' ⟨I'', F'', σs'', e, s, q⟩ => ?_, fun v H'' z => r.rt _ _ (z.go ev4)⟩⟩
    · exact ⟨hlt, I'', F'', σs'', ev4.trans e (fun _ z => z) (fun _ z => .inr z), (sb'.trans u1).trans e.up, s, q⟩
    · exact ⟨hlt, I'', F'', σs'', ev4.trans e (fun _ z => z) (fun _ z => .inr z), (sb'.trans u1).trans e.up, s, q⟩
  · have ei : i = ds.length := by omega
    subst ei
    rw [List.drop_length] at q'
    exact .inl ⟨W.stop I' H' sb' st'.sub _ (Nat.le_refl _), r.nx _ _ ⟨I', F', σs', ev', st', q'⟩⟩
theorem js_while (hp : PassesOwn (model X.prog X.w) X.A X.env X.xe) (hc : JT X ar b1 c tc) (hb : JSs X ar body tb) : JS X ar (.While c body [] pos) (sWhile tc tb) := by
  refine PS.mono (ps_while hp hc.pt hb) fun D σ H ⟨I, F, σs, Ds, ES, st, tx, ⟨n, q⟩, r⟩ => ?_
  refine ⟨fun n σ' H' => ∃ I' F' σs', Evo I H (own F) I' H' (own F') ∧ StR X.K ar I' H' σ' σs' F' ∧ whileT tc tb n σs' Ds ES, ⟨n, I, F, σs, .refl _ _ _, st, q⟩, ?_⟩
  rintro n σ' H' ⟨I', F', σs', ev', st', q'⟩
  cases n with
  | zero => exact (show False from q').elim
  | succ n =>
    refine ⟨I', F', σs', _, ES, st', tx.go ev' (fun _ z => z), q', fun b I2 H2 F2 σ2 ev2 st2 q2 => ?_⟩
    have ev3 := ev'.trans ev2 (fun _ z => z) (fun _ z => .inr z)
    cases b with
    | false =>
      dsimp only
      rw [if_neg (by decide)]
      exact r.nx _ _ ⟨I2, F2, σ2, ev3, st2, q2⟩
    | true =>
      dsimp only
      rw [if_pos rfl]
      refine ⟨fun σ'' H'' => ∃ I'' F'' σs'', Evo I H (own F) I'' H'' (own F'') ∧ StR X.K ar I'' H'' σ'' σs'' F'' ∧ whileT tc tb n σs'' Ds ES, fun σ'' H'' z => ⟨n, Nat.lt_succ_self n, z⟩, ?_⟩
      refine ⟨I2, F2, σ2, _, ES, st2, tx.go ev3 (fun _ z => z), q2, ⟨fun σ'' H'' ⟨I'', F'', σs'', e, s, q⟩ => ⟨I'', F'', σs'', ev3.trans e (fun _ z => z) (fun _ z => .inr z), s, q⟩, fun σ'' H'' z => r.nx _ _ (z.go ev3), fun σ'' H'' ⟨I'', F'', σs'', e, s, q⟩ => ⟨I'', F'', σs'', ev3.trans e (fun _ z => z) (fun _ z => .inr z), s, q⟩, fun v H'' z => r.rt _ _ (z.go ev3)⟩⟩
end

/-! ### for over an own list that the body leaves as it is -/
def forVT (i : Nat) (ds0 : List PyData) (g : TGt) (tb : TSs) : List PyData → TSs
  | [], σs, D, _ => gets σs i = some (.lst ds0) ∧ D.nx σs
  | d :: ds, σs, D, ES => gets σs i = some (.lst ds0) ∧ nd (g d σs) fun σ1 => tb σ1 { D with nx := fun σ2 => forVT i ds0 g tb ds σ2 D ES, ct := fun σ2 => forVT i ds0 g tb ds σ2 D ES, bk := D.nx } ES
def sForV (i : Nat) (g : TGt) (tb : TSs) : TSs := fun σs D ES => match gets σs i with
  | some (.lst ds0) => forVT i ds0 g tb ds0 σs D ES
  | _ => False
section
variable {X : Cx} {ar : Nat → Option V} {tg : Expr} {body : List Stmt} {g : TGt} {ts : List Nat} {tb : TSs} {pos npos : Pos}
theorem StR.prot {K : PySem.W.Frag} {I H : Hp} {σ : L2.St} {σs : SSt} {F : Nat → List Addr} (h : StR K ar I H σ σs F) {i : Nat} {v : V} (e : σ[i]? = some (some v)) : StR K (prot ar i v) I H σ σs F :=
  ⟨h.sub, h.rep, h.non, h.dis, h.notI, fun j w r a q => by
    unfold SV.prot at a
    split at a
    · rename_i ej
      cases a
      subst ej
      exact .inr e
    · exact h.par j w r a q, h.len⟩
theorem StR.unprot {K : PySem.W.Frag} {I H : Hp} {σ : L2.St} {σs : SSt} {F : Nat → List Addr} {i : Nat} {v : V} (h : StR K (SV.prot ar i v) I H σ σs F) (hv : ∀ w, ar i = some w → v = w) : StR K ar I H σ σs F :=
  ⟨h.sub, h.rep, h.non, h.dis, h.notI, fun j w r a q => by
    by_cases ej : j = i
    · subst ej
      have := h.par j v r (by unfold SV.prot; rw [if_pos rfl]) q
      rw [hv w a] at this
      exact this
    · exact h.par j w r (by unfold SV.prot; rw [if_neg ej]; exact a) q, h.len⟩
theorem js_forV (i : Nat) {x : Str} (hp : PassesOwn (model X.prog X.w) X.A X.env X.xe) (hc : X.calm = true) (hg : ∀ v, JG X (prot ar i v) tg g ts) (hb : ∀ v, JSs X (prot ar i v) body tb)
    (hN : X.N[i]? = some x := by rfl) (hv : Vis X.env.scope x := by first | exact Or.inl rfl | exact Or.inr (Or.inl rfl) | exact Or.inr (Or.inr rfl)) (hd : (x == ("__debug__" : Str)) = false := by decide) (hcd : (x == ("__classdict__" : Str)) = false := by decide)
    (hs : ∀ y, foldedSetIterable (.Name x npos) X.env y = pure y := by intro _; rfl) : JS X ar (.For tg (.Name x npos) body [] pos) (sForV i g tb) := by
  refine ⟨fun pins s σ H D J ⟨I, F, σs, Ds, ES, st, tx, q, r⟩ => ?_⟩
  unfold sForV at q
  cases g0 : gets σs i with
  | none => rw [g0] at q; exact q.elim
  | some r0 =>
    rw [g0] at q
    cases r0 with
    | lst ds =>
      obtain ⟨v, e1, sr⟩ := st.rep i _ g0
      obtain ⟨a, vs0, rfl, eF0, hH0, p0⟩ := sr.lst_inv
      have st0 := st.prot e1
      have back : ∀ {N : SSt → Prop} {σ' : L2.St} {H' : Hp}, Bh X (prot ar i (.ref a)) I H F N σ' H' → Bh X ar I H F N σ' H' := fun {N σ' H'} ⟨I', F', σs', e, s', q'⟩ => ⟨I', F', σs', e, s'.unprot fun w hw => by
        rcases st.par i w _ hw g0 with ⟨d, z⟩ | z
        · cases z
        · rw [e1] at z
          exact Option.some.inj (Option.some.inj z), q'⟩
      have backR : ∀ {Q : QS} {v : V} {H' : Hp}, Rt X (prot ar i (.ref a)) I H F Q v H' → Rt X ar I H F Q v H' := fun {Q v H'} ⟨r1, R, I', σ', F', σs', hn, e, s', q'⟩ => ⟨r1, R, I', σ', F', σs', hn, e, s'.unprot fun w hw => by
        rcases st.par i w _ hw g0 with ⟨d, z⟩ | z
        · cases z
        · rw [e1] at z
          exact Option.some.inj (Option.some.inj z), q'⟩
      have tx0 : TX X (prot ar i (.ref a)) I H (own F) ES := by
        obtain ⟨W, tk, f⟩ := tx
        refine ⟨W, tk, fun cls d σ' I' H' F' σs' ed ev s' hed q' => f cls d σ' I' H' F' σs' ed ev (s'.unprot fun w hw => ?_) hed q'⟩
        rcases st.par i w _ hw g0 with ⟨d, z⟩ | z
        · cases z
        · rw [e1] at z
          exact Option.some.inj (Option.some.inj z)
      refine (ps_for hp hc (pi_list (pe_var hN hv hd hcd)) (hg (.ref a)) (hb (.ref a)) hs).run pins s σ H D J ⟨.ref a, e1, a, rfl, ⟨vs0, SqL.of hH0⟩, ?_⟩
      refine ⟨fun k n σ' H' => n = ds.length - k ∧ k ≤ ds.length ∧ ∃ I' F' σs', Evo I H (own F) I' H' (own F') ∧ StR X.K (prot ar i (.ref a)) I' H' σ' σs' F' ∧ forVT i ds g tb (ds.drop k) σs' Ds ES, ⟨ds.length, by simp, Nat.zero_le _, I, F, σs, .refl _ _ _, st0, by simpa using q⟩, ?_⟩
      rintro k n σ' H' ⟨rfl, hk, I', F', σs', ev', st', q'⟩
      -- the list as it stands
      have at_a : gets σs' i = some (.lst ds) → ∃ vs', H' a = some (.lst vs') ∧ PRs X.K I' vs' ds := fun e => by
        obtain ⟨v', e2, sr'⟩ := st'.rep i _ e
        obtain ⟨a', vs', rfl, _, hH', p'⟩ := sr'.lst_inv
        rcases st'.par i (.ref a) _ (by unfold SV.prot; rw [if_pos rfl]) e with ⟨d, z⟩ | z
        · cases z
        · rw [e2] at z
          cases z
          exact ⟨vs', hH', p'⟩
      by_cases hlt : k < ds.length
      · rw [List.drop_eq_getElem_cons hlt] at q'
        obtain ⟨e3, q2⟩ := (show gets σs' i = some (.lst ds) ∧ _ from q')
        obtain ⟨vs', hH', p'⟩ := at_a e3
        obtain ⟨σ2, e2, q2⟩ := nd_some q2
        obtain ⟨w', ew, pw⟩ := p'.get (List.getElem?_eq_getElem hlt)
        refine .inr ⟨⟨vs', w', SqL.of hH', ew⟩, fun σ'' H'' => k + 1 ≤ ds.length ∧ ∃ I'' F'' σs'', Evo I H (own F) I'' H'' (own F'') ∧ StR X.K (prot ar i (.ref a)) I'' H'' σ'' σs'' F'' ∧ forVT i ds g tb (ds.drop (k + 1)) σs'' Ds ES, fun σ'' H'' z => ⟨ds.length - (k + 1), by omega, rfl, z.1, z.2⟩, fun y H3 ⟨eH, hy⟩ => ?_⟩
        subst eH
        have := hy vs' (SqL.of hH')
        rw [ew] at this
        cases this
        refine ⟨I', F', σs', _, σ2, st', pw, e2, fun σ4 F4 l4 k4 o4 st4 => ?_⟩
        have ev4 : Evo I H (own F) I' H3 (own F4) := ev'.sameo o4
        refine ⟨I', F4, σ2, _, ES, st4, tx0.go ev4 (fun _ z => z), q2, ⟨fun σ'' H'' ⟨I'', F'', σs'', e, s, q⟩ => ?_, fun σ'' H'' z => r.nx _ _ (back (z.go ev4)), fun σ'' H'' ⟨I'', F'', σs'', e, s, q⟩ => ?_, fun v H'' z => r.rt _ _ (backR (z.go ev4))⟩⟩
        · exact ⟨hlt, I'', F'', σs'', ev4.trans e (fun _ z => z) (fun _ z => .inr z), s, q⟩
        · exact ⟨hlt, I'', F'', σs'', ev4.trans e (fun _ z => z) (fun _ z => .inr z), s, q⟩
      · have ei : k = ds.length := by omega
        subst ei
        rw [List.drop_length] at q'
        obtain ⟨e3, q2⟩ := (show gets σs' i = some (.lst ds) ∧ _ from q')
        obtain ⟨vs', hH', p'⟩ := at_a e3
        exact .inl ⟨⟨vs', SqL.of hH', by rw [p'.length]; exact Nat.le_refl _⟩, r.nx _ _ (back ⟨I', F', σs', ev', st', q2⟩)⟩
    | _ => exact q.elim
end
end SV
/-! SvL: list comprehensions. -/
namespace SV
open PySem PySem.Spec PyProof.Rows L2

def noX : XS := fun _ _ _ => False
/-- what stands behind an expression -/
def OutE (K : PySem.W.Frag) (ar : Nat → Option V) (I H : Hp) (F : Nat → List Addr) (σ : L2.St) (Qk : KS) : VK := fun v H' =>
  ∃ r R I' F' σs', Evo I H (own F) I' H' (fun a => a ∈ R ∨ own F' a) ∧ StR K ar I' H' σ σs' F' ∧ SR K I' H' v r R ∧ (∀ a ∈ R, ¬ own F' a) ∧ (∀ a ∈ R, I' a = none) ∧ Qk r σs'
def liEn (K : PySem.W.Frag) (ar : Nat → Option V) (t : TEs) : TE := fun σ H Q => ∃ I F σs Qk, StR K ar I H σ σs F ∧ t σs Qk noX ∧ ∀ v H', OutE K ar I H F σ Qk v H' → Q v H'
theorem JE.pen {X : Cx} {ar : Nat → Option V} {b : Bool} {e : Expr} {t : TEs} (h : JE X ar b true e t) : PE X e (liEn X.K ar t) :=
  ⟨fun pins s σ H Q J ⟨I, F, σs, Qk, st, q, f⟩ => thn (h.run pins s σ I H F σs Qk noX J st .none q) fun u s' ⟨v, r, R, I', H', F', σs', d, rv, q'⟩ =>
    ⟨v, H', d.inv, rv, f v H' ⟨r, R, I', F', σs', d.evo, d.st, d.sr, d.nf rfl, d.nI, q'⟩⟩⟩
def liTn (K : PySem.W.Frag) (ar : Nat → Option V) (t : TTs) : TT := fun σ H Q => ∃ I F σs Qk, StR K ar I H σ σs F ∧ t σs Qk noX ∧ ∀ c I' H' F' σs', Evo I H (own F) I' H' (own F') → StR K ar I' H' σ σs' F' → Qk c σs' → Q c H'
theorem JT.ptn {X : Cx} {ar : Nat → Option V} {b : Bool} {e : Expr} {t : TTs} (h : JT X ar b e t) : PT X e (liTn X.K ar t) :=
  ⟨fun pins s σ H Q J ⟨I, F, σs, Qk, st, q, f⟩ => thn (h.run pins s σ I H F σs Qk noX J st .none q) fun c s' ⟨I', H', F', σs', d, q'⟩ => ⟨H', d.inv, f c I' H' F' σs' d.evo d.st q'⟩⟩
theorem JE.of_pe {X : Cx} {ar : Nat → Option V} {e : Expr} {t : TEs} {t' : TE} (h : PE X e t') (i : ∀ σ I H F σs Qk ES Q, StR X.K ar I H σ σs F → TX X ar I H (own F) ES → t σs Qk ES → (∀ v H', OutE X.K ar I H F σ Qk v H' → Q v H') → t' σ H Q) : JE X ar false true e t := by
  refine ⟨fun pins s σ I H F σs Qk ES J st tx q => ?_⟩
  refine thn (h.run pins s σ H (OutE X.K ar I H F σ Qk) J (i σ I H F σs Qk ES _ st tx q fun _ _ z => z)) fun u s' ⟨v, H', J', rv, r, R, I', F', σs', ev, st', sr, nf, nI, q'⟩ => ?_
  exact ⟨v, r, R, I', H', F', σs', ⟨J', ev, st', sr, fun _ => nf, nI, fun z => Bool.noConfusion z⟩, rv, q'⟩
/-- a clause's tests -/
def JQ (X : Cx) (ar : Nat → Option V) (ifs : List Expr) (t : TTs) : Prop := PTs X ifs (liTn X.K ar t)
theorem PTs.mono {X : Cx} {es : List Expr} {t t' : TT} (h : PTs X es t) (i : ∀ σ H Q, t' σ H Q → t σ H Q) : PTs X es t' := ⟨fun pins s σ H Q J q => h.run pins s σ H Q J (i σ H Q q)⟩
def tYesS : TTs := fun σs Q _ => Q true σs
theorem jq_nil {X : Cx} {ar : Nat → Option V} : JQ X ar [] tYesS := PTs.mono pts_nil fun σ H Q ⟨I, F, σs, Qk, st, q, f⟩ => f true I H F σs (.refl _ _ _) st q
theorem jq_one {X : Cx} {ar : Nat → Option V} {b : Bool} {c : Expr} {t : TTs} (h : JT X ar b c t) : JQ X ar [c] t := pts_one h.ptn

/-! ### the block's own names -/
def wipeS (σs : SSt) : List Nat → SSt
  | [] => σs
  | v :: vs => sets (wipeS σs vs) v none
section
variable {K : PySem.W.Frag} {ar : Nat → Option V} {I H : Hp} {σ σ' : L2.St} {σs : SSt} {F : Nat → List Addr}
theorem wipeS_length : ∀ vs : List Nat, (wipeS σs vs).length = σs.length
  | [] => rfl
  | v :: vs => by
    unfold wipeS
    rw [sets_length, wipeS_length vs]
/-- a slot is forgotten, also below -/
theorem StR.forget2 (h : StR K ar I H σ σs F) (i : Nat) : StR K ar I H (σ.set i none) (sets σs i none) (drop1 F i) := by
  have g := h.forget i
  refine ⟨g.sub, fun j r q => ?_, g.non, g.dis, g.notI, fun j w r ha q => ?_, by rw [List.length_set]; exact g.len⟩
  · have hj : j ≠ i := fun e => by
      rw [e, gets_sets_none] at q
      cases q
    obtain ⟨v, e, s⟩ := g.rep j r q
    exact ⟨v, by rw [List.getElem?_set_ne (Ne.symm hj)]; exact e, s⟩
  · have hj : j ≠ i := fun e => by
      rw [e, gets_sets_none] at q
      cases q
    rw [List.getElem?_set_ne (Ne.symm hj)]
    exact g.par j w r ha q
theorem StR.wipe (h : StR K ar I H σ σs F) : ∀ vs : List Nat, ∃ F', StR K ar I H (L2.wipe σ vs) (wipeS σs vs) F' ∧ ∀ a, own F' a → own F a
  | [] => ⟨F, h, fun _ z => z⟩
  | v :: vs => by
    obtain ⟨F', st, k⟩ := StR.wipe h vs
    exact ⟨drop1 F' v, st.forget2 v, fun a z => k a (own_of_drop1 z)⟩
theorem wipeS_none : ∀ {vs : List Nat} {i : Nat}, i ∈ vs → gets (wipeS σs vs) i = none
  | v :: vs, i, h => by
    unfold wipeS
    by_cases e : i = v
    · rw [e, gets_sets_none]
    · rw [gets_sets_ne e]
      rcases List.mem_cons.mp h with z | z
      · exact absurd z e
      · exact wipeS_none z
/-- behind the block -/
theorem StR.unwipe {vs : List Nat} (h : StR K ar I H (L2.wipe σ vs) σs F) : StR K ar I H σ σs F :=
  ⟨h.sub, fun i r q => let ⟨v, e, s⟩ := h.rep i r q; ⟨v, (wipe_some e).1, s⟩, h.non, h.dis, h.notI, fun i v r a q => (h.par i v r a q).imp id fun e => (wipe_some e).1, by rw [h.len, wipe_length]⟩
theorem wipe_eq {σ σ' : L2.St} (hl : σ'.length = σ.length) : ∀ {vs : List Nat}, (∀ j, j ∉ vs → σ'[j]? = σ[j]?) → L2.wipe σ' vs = L2.wipe σ vs := by
  intro vs h
  refine List.ext_getElem? fun j => ?_
  by_cases hj : j ∈ vs
  · have nn : ∀ {τ : L2.St} {ws : List Nat}, j ∈ ws → (L2.wipe τ ws)[j]? = if j < τ.length then some none else none := by
      intro τ ws hw
      induction ws with
      | nil => cases hw
      | cons v ws ih =>
        unfold L2.wipe
        by_cases e : v = j
        · subst e
          by_cases hv : v < τ.length
          · rw [List.getElem?_set_self (by rw [wipe_length]; exact hv), if_pos hv]
          · rw [if_neg hv, List.getElem?_eq_none (by rw [List.length_set, wipe_length]; omega)]
        · rw [List.getElem?_set_ne e]
          rcases List.mem_cons.mp hw with z | z
          · exact absurd z.symm e
          · exact ih z
    rw [nn hj, nn hj, hl]
  · rw [wipe_out hj, wipe_out hj]
    exact h j hj
theorem wipe_wipe {vs : List Nat} : L2.wipe (L2.wipe σ vs) vs = L2.wipe σ vs := wipe_eq (wipe_length σ vs) fun j hj => wipe_out hj
end

def lcT (g : TGt) (tt : TTs) (te : TEs) (vs : List Nat) : List PyData → List PyData → SSt → (List PyData → SSt → Prop) → Prop
  | [], acc, σs, K => K acc σs
  | d :: ds, acc, σs, K => nd (g d σs) fun σ1 => tt σ1 (fun b σ2 => ifb b (te σ2 (fun r σ3 => nd r.toD fun e => acc.length < sizeLine ∧ lcT g tt te vs ds (acc ++ [e]) (wipeS σ3 vs) K) noX) (lcT g tt te vs ds acc (wipeS σ2 vs) K)) noX
def sLc (ti : TIs) (g : TGt) (tt : TTs) (te : TEs) (vs : List Nat) : TEs := fun σs Q ES => ti σs (fun ds σ1 => lcT g tt te vs ds [] (wipeS σ1 vs) (fun acc σ2 => Q (.lst acc) σ2)) ES
section
variable {X : Cx} {ar : Nat → Option V} {ti : TIs} {g : TGt} {ts : List Nat} {tt : TTs} {te : TEs} {vs : List Nat}
/-- the state within the block: the new list at D -/
structure InL (K : PySem.W.Frag) (ar : Nat → Option V) (I0 H0 : Hp) (o0 : Addr → Prop) (Iw : Hp) (D : Addr) (σw : L2.St) (acc : List PyData) (σs : SSt) (H : Hp) : Prop where
  ex : ∃ I F ws, Evo I0 H0 o0 I H (fun a => a ∈ [D] ∨ own F a) ∧ Sub Iw I ∧ StR K ar I H σw σs F ∧ H D = some (.lst ws) ∧ PRs K I ws acc ∧ I D = none ∧ ¬ own F D
theorem lc_imp {σ : L2.St} {I H : Hp} {F : Nat → List Addr} {σs : SSt} {Qk : KS} {ES : XS} {Q : VK} (hts : ∀ t ∈ ts, t ∈ vs) (st : StR X.K ar I H σ σs F) (tx : TX X ar I H (own F) ES) (q : sLc ti g tt te vs σs Qk ES)
    (hQ : ∀ v H', OutE X.K ar I H F σ Qk v H' → Q v H') : tLc (liI X ar ti) (liG X ar g ts) (liTn X.K ar tt) (liEn X.K ar te) vs σ H Q := by
  refine ⟨I, F, σs, _, ES, st, tx, q, fun I1 H1 F1 σ1 ds J ev st1 W q1 D hD => ?_⟩
  obtain ⟨F2, st2, k2⟩ := st1.wipe vs
  have hID : I1 D = none := by
    cases e : I1 D with
    | none => rfl
    | some x => rw [st1.sub _ _ e] at hD; cases hD
  have hFD : ¬ own F2 D := fun z => by
    obtain ⟨x, e⟩ := st2.there z
    rw [hD] at e
    cases e
  have up : ∀ a x, H1 a = some x → upd H1 D (.lst []) a = some x := fun a x e => by
    rw [upd_ne fun z => by subst z; rw [hD] at e; cases e]
    exact e
  refine ⟨fun i n H' => n = ds.length - i ∧ i ≤ ds.length ∧ ∃ acc σs', InL X.K ar I H (own F) I1 D (L2.wipe σ vs) acc σs' H' ∧ lcT g tt te vs (ds.drop i) acc σs' (fun acc σ2 => Qk (.lst acc) σ2), ⟨ds.length, by simp, Nat.zero_le _, [], wipeS σ1 vs, ⟨I1, F2, [], ⟨ev.up, fun a x e n => up a x (ev.fr a x e n), fun a z => ?_, ev.ni⟩, .refl _, ?_, upd_same, .nil, hID, hFD⟩, by simpa using q1⟩, ?_⟩
  · rcases z with z | z
    · have : a = D := by simpa using z
      subst this
      exact ev.back hD
    · exact ev.nw a (k2 a z)
  · exact st2.keep (fun a x e => up a x (st2.sub a x e)) (.refl _) (fun a _ x e => up a x e) fun a m => st2.ownI m
  rintro i n H' ⟨rfl, hi, acc, σs', ⟨I', F', ws, ev', sb', st', hD', pw, nI', nF'⟩, q'⟩
  by_cases hlt : i < ds.length
  · have eg : ds[i]? = some ds[i] := List.getElem?_eq_getElem hlt
    rw [List.drop_eq_getElem_cons hlt] at q'
    obtain ⟨σ2, e2, q2⟩ := nd_some q'
    obtain ⟨go, yl⟩ := W.go I' H' sb' st'.sub i _ eg
    refine .inr ⟨go, fun H'' => i + 1 ≤ ds.length ∧ ∃ acc σs', InL X.K ar I H (own F) I1 D (L2.wipe σ vs) acc σs' H'' ∧ lcT g tt te vs (ds.drop (i + 1)) acc σs' (fun acc σ2 => Qk (.lst acc) σ2), fun H'' z => ⟨ds.length - (i + 1), by omega, rfl, z.1, z.2⟩, fun x H3 y3 => ?_⟩
    obtain ⟨I3, u1, u2, u3, u4, px⟩ := yl x H3 y3
    have nI3 : I3 D = none := by
      cases e : I3 D with
      | none => rfl
      | some y =>
        rcases u4 D y e with e | e
        · rw [nI'] at e; cases e
        · rw [hD'] at e; cases e
    have ev3 : Evo I H (own F) I3 H3 (fun a => a ∈ [D] ∨ own F' a) := ⟨ev'.up.trans u1, fun a x e n => u3 a x (ev'.fr a x e n), fun a z => ev'.nw a z, fun a y e => by
      rcases u4 a y e with e | e
      · exact ev'.ni a y e
      · exact .inr (ev'.back e)⟩
    have st3 : StR X.K ar I3 H3 (L2.wipe σ vs) σs' F' := st'.keep u2 u1 (fun a _ x e => u3 a x e) fun a m => by
      cases e : I3 a with
      | none => rfl
      | some y =>
        rcases u4 a y e with e | e
        · rw [st'.ownI m] at e
          cases e
        · obtain ⟨z, e2⟩ := st'.there m
          rw [e] at e2
          cases e2
    have hD3 := u3 _ _ hD'
    refine ⟨I3, F', σs', _, σ2, st3, px, e2, fun σ4 F4 l4 k4 o4 st4 => ?_⟩
    have ew : L2.wipe σ4 vs = L2.wipe σ vs := by
      rw [wipe_eq l4 fun j hj => k4 j fun z => hj (hts j z), wipe_wipe]
    refine ⟨ew, ?_⟩
    -- a turn's end
    have fin : ∀ {I5 H5 : Hp} {F5 : Nat → List Addr} {σ5 : SSt} {ws5 : List V} {acc5 : List PyData}, Evo I H (own F) I5 H5 (fun a => a ∈ [D] ∨ own F5 a) → Sub I1 I5 → StR X.K ar I5 H5 σ4 σ5 F5 → H5 D = some (.lst ws5) → PRs X.K I5 ws5 acc5 → I5 D = none → ¬ own F5 D →
        InL X.K ar I H (own F) I1 D (L2.wipe σ vs) acc5 (wipeS σ5 vs) H5 := fun {I5 H5 F5 σ5 ws5 acc5} e s st h p n1 n2 => by
      obtain ⟨F6, st6, k6⟩ := st.wipe vs
      rw [ew] at st6
      exact ⟨I5, F6, ws5, ⟨e.up, e.fr, fun a z => e.nw a (z.imp id (k6 a)), e.ni⟩, s, st6, h, p, n1, fun z => n2 (k6 _ z)⟩
    have ev4 : Evo I H (own F) I3 H3 (fun a => a ∈ [D] ∨ own F4 a) := ev3.sameo fun a z => z.imp id (o4 a)
    have nF4 : ¬ own F4 D := fun z => nF' (o4 _ z)
    refine ⟨I3, F4, σ2, _, st4, q2, fun b I5 H5 F5 σ5 ev5 st5 q5 => ?_⟩
    have hD5 : H5 D = some (.lst ws) := ev5.fr _ _ hD3 nF4
    have nI5 : I5 D = none := by
      cases e : I5 D with
      | none => rfl
      | some y =>
        rcases ev5.ni D y e with e | e | e
        · rw [nI3] at e; cases e
        · exact absurd e nF4
        · rw [hD3] at e; cases e
    have nF5 : ¬ own F5 D := fun z => by
      rcases ev5.nw D z with e | e
      · exact nF4 e
      · rw [hD3] at e; cases e
    have ev6 : Evo I H (own F) I5 H5 (fun a => a ∈ [D] ∨ own F5 a) := ev4.trans ev5 (fun _ z => .inr z) fun c z => z.imp .inl id
    cases b with
    | false =>
      dsimp only
      rw [if_neg (by decide)]
      exact ⟨hlt, acc, wipeS σ5 vs, fin ev6 ((sb'.trans u1).trans ev5.up) st5 hD5 (pw.sub (u1.trans ev5.up)) nI5 nF5, q5⟩
    | true =>
      dsimp only
      rw [if_pos rfl]
      refine ⟨I5, F5, σ5, _, st5, q5, fun y H7 ⟨r, R, I7, F7, σ7, ev7, st7, sr7, nf7, nI7, q7⟩ => ?_⟩
      obtain ⟨e, er, hz, q8⟩ := nd_some q7
      have hD7 : H7 D = some (.lst ws) := ev7.fr _ _ hD5 nF5
      have nI7' : I7 D = none := by
        cases e : I7 D with
        | none => rfl
        | some y =>
          rcases ev7.ni D y e with e | e | e
          · rw [nI5] at e; cases e
          · exact absurd e nF5
          · rw [hD5] at e; cases e
      have nFR : ¬ (D ∈ R ∨ own F7 D) := fun z => by
        rcases ev7.nw D z with e | e
        · exact nF5 e
        · rw [hD5] at e; cases e
      have pr := sr7.freeze er nI7
      -- the list grows
      have up7 : ∀ a x, a ≠ D → H7 a = some x → upd H7 D (.lst (ws ++ [y])) a = some x := fun a x n e => by
        rw [upd_ne n]
        exact e
      have nfz : fz I7 H7 R D = none := by
        rw [fz_out fun z => nFR (.inl z)]
        exact nI7'
      have sub8 : Sub (fz I7 H7 R) (upd H7 D (.lst (ws ++ [y]))) := fun a x e => up7 a x (fun z => by rw [z, nfz] at e; cases e) (fz_sub st7.sub a x e)
      have st8 : StR X.K ar (fz I7 H7 R) (upd H7 D (.lst (ws ++ [y]))) σ4 σ7 F7 := st7.keep sub8 (sub_fz nI7) (fun a m x e => up7 a x (fun z => nFR (.inr (z ▸ m))) e) fun a m => by
        rw [fz_out fun z => nf7 a z m]
        exact st7.ownI m
      have ev8 : Evo I H (own F) (fz I7 H7 R) (upd H7 D (.lst (ws ++ [y]))) (fun a => a ∈ [D] ∨ own F7 a) := by
        have evA := ev6.trans ev7 (p1 := own F5) (fun _ z => .inr z) (o3 := fun a => a ∈ [D] ∨ (a ∈ R ∨ own F7 a)) fun c z => by
          rcases z with z | z
          · exact .inl (.inl z)
          · exact .inr z
        refine ⟨evA.up.trans (sub_fz nI7), fun a x e n => ?_, fun a z => evA.nw a (z.imp id .inr), fun a x e => ?_⟩
        · have hx := evA.fr a x e n
          refine up7 a x (fun z => ?_) hx
          subst z
          rcases ev'.nw a (.inl (by simp)) with z | z
          · exact n z
          · rw [e] at z; cases z
        · unfold fz at e
          split at e
          · rename_i m
            exact .inr (evA.nw a (.inr (.inl m)))
          · exact evA.ni a x e
      refine ⟨ws, hD7, by rw [pw.length]; exact hz, hlt, acc ++ [e], wipeS σ7 vs, fin ev8 ((((sb'.trans u1).trans ev5.up).trans ev7.up).trans (sub_fz nI7)) st8 upd_same ?_ nfz (fun z => nFR (.inr z)), q8⟩
      exact (pw.sub ((u1.trans ev5.up).trans (ev7.up.trans (sub_fz nI7)))).append (.cons pr .nil)
  · have ei : i = ds.length := by omega
    subst ei
    rw [List.drop_length] at q'
    have one : ∀ a ∈ [D], a = D := fun a m => by simpa using m
    exact .inl ⟨W.stop I' H' sb' st'.sub _ (Nat.le_refl _), hQ _ _ ⟨.lst acc, [D], I', F', σs', ev', st'.unwipe, .lst hD' pw, fun a m z => nF' (by rw [← one a m]; exact z), fun a m => by rw [one a m]; exact nI', q'⟩⟩
variable {elt tg iter : Expr} {ifs : List Expr} {scope : Scope} {ow : List (Str × Nat)} {b : Bool} {pos : Pos}
abbrev BlkCx (X : Cx) (s : Shared) (H : Hp) (scope : Scope) (C : Addr) (cl : List (Str × Addr)) (fp : List Addr) : Cx := X.blk s H scope (compEnvC scope cl C X.env) fp
theorem je_lc (hc : X.calm = true) (hN : X.N.Nodup) (hi : JI X ar tg iter ti) (ok : BlkOk X.N X.env.scope scope ow) (hts : ∀ t ∈ ts, t ∈ ow.map (·.2))
    (hg : ∀ (s : Shared) (H : Hp) (C : Addr) (cl : List (Str × Addr)) (fp : List Addr), JG (BlkCx X s H scope C cl fp) ar tg g ts) (ht : ∀ (s : Shared) (H : Hp) (C : Addr) (cl : List (Str × Addr)) (fp : List Addr), JQ (BlkCx X s H scope C cl fp) ar ifs tt)
    (he : ∀ (s : Shared) (H : Hp) (C : Addr) (cl : List (Str × Addr)) (fp : List Addr), JE (BlkCx X s H scope C cl fp) ar b true elt te) (hs : ∀ x, foldedSetIterable iter X.env x = pure x := by intro _; rfl) :
    JE X ar false true (.ListComp elt [⟨tg, iter, ifs, 0⟩] scope pos) (sLc ti g tt te (ow.map (·.2))) :=
  JE.of_pe (pe_lc (g := liG X ar g ts) (tt := liTn X.K ar tt) hc hN hi ok (fun s H C cl fp => hg s H C cl fp) (fun s H C cl fp => ht s H C cl fp) (fun s H C cl fp => (he s H C cl fp).pen) hs) fun σ I H F σs Qk ES Q st tx q hQ => lc_imp hts st tx q hQ
theorem js_setLc {i : Nat} {y : Str} {py : Pos} {spos : Pos} (hc : X.calm = true) (hp : ar i = none) (hN : X.N.Nodup) (hy : X.N[i]? = some y) (hyl : X.env.scope.names.lookup y = some .local)
    (hsw : swapsWith (.ListComp elt [⟨tg, iter, ifs, 0⟩] scope pos) (some (.Name y py)) spos.line X.env = pure true) (hi : JI X ar tg iter ti) (ok : BlkOk X.N X.env.scope scope ow) (hts : ∀ t ∈ ts, t ∈ ow.map (·.2))
    (hg : ∀ (s : Shared) (H : Hp) (C : Addr) (cl : List (Str × Addr)) (fp : List Addr), JG (BlkCx X s H scope C cl fp) ar tg g ts) (ht : ∀ (s : Shared) (H : Hp) (C : Addr) (cl : List (Str × Addr)) (fp : List Addr), JQ (BlkCx X s H scope C cl fp) ar ifs tt)
    (he : ∀ (s : Shared) (H : Hp) (C : Addr) (cl : List (Str × Addr)) (fp : List Addr), JE (BlkCx X s H scope C cl fp) ar b true elt te) (hs : ∀ x, foldedSetIterable iter X.env x = pure x := by intro _; rfl) :
    JS X ar (.Assign [.Name y py] (.ListComp elt [⟨tg, iter, ifs, 0⟩] scope pos) spos) (sSet i (sLc ti g tt te (ow.map (·.2)))) := by
  refine ⟨fun pins s σ H D J ⟨I, F, σs, Ds, ES, st, tx, q, r⟩ => ?_⟩
  have hl : i < σs.length := by rw [st.len, J.len]; exact (List.getElem?_eq_some_iff.mp hy).1
  refine (ps_setLc (g := liG X ar g ts) (tt := liTn X.K ar tt) hc hN hy hyl hsw hi ok (fun s H C cl fp => hg s H C cl fp) (fun s H C cl fp => ht s H C cl fp) (fun s H C cl fp => (he s H C cl fp).pen) hs).run pins s σ H D J (lc_imp hts st tx q fun v H' ⟨r', R, I', F', σs', ev, st', sr, nf, nI, q'⟩ => ?_)
  exact r.nx _ _ ⟨I', put1 F' i R, _, ev.stored, st'.store (by rw [st'.len, ← st.len]; exact hl) sr nf nI (.inr hp), q'⟩
end
end SV
/-! SvM: a def by its body; the law's own head. -/
namespace SV
open PySem PySem.Spec PyProof.Rows L2

/-- the slots at a def's entry -/
def startS (n : Nat) (ss : List S) : SSt := ss.map some ++ List.replicate (n - ss.length) none
theorem startS_length {n : Nat} {ss : List S} (h : ss.length ≤ n) : (startS n ss).length = n := by
  unfold startS
  rw [List.length_append, List.length_map, List.length_replicate]
  omega
/-- what is still known of the arguments: those with own objects -/
def keepA : Option S → Option S
  | some (.val _) => none
  | x => x
def endS (n : Nat) (σs : SSt) : SSt := (σs.take n).map keepA
theorem gets_ix : ∀ {σs : SSt} {j : Nat}, gets σs j = (σs[j]?).bind id
  | [], _ => rfl
  | x :: r, 0 => by cases x <;> rfl
  | x :: r, j + 1 => by
    rw [List.getElem?_cons_succ]
    exact gets_ix (σs := r)
theorem gets_startS {n : Nat} {ss : List S} {j : Nat} : gets (startS n ss) j = ss[j]? := by
  rw [gets_ix]
  unfold startS
  by_cases h : j < ss.length
  · rw [List.getElem?_append_left (by simpa using h), List.getElem?_map]
    cases e : ss[j]? with
    | none => rfl
    | some y => rfl
  · rw [List.getElem?_append_right (by simpa using h), List.getElem?_replicate, List.getElem?_eq_none (by omega)]
    split <;> rfl
theorem gets_endS {n : Nat} {σs : SSt} {j : Nat} : gets (endS n σs) j = if j < n then keepA (gets σs j) else none := by
  rw [gets_ix, gets_ix]
  unfold endS
  rw [List.getElem?_map, List.getElem?_take]
  split
  · cases e : σs[j]? with
    | none => rfl
    | some y => cases y <;> rfl
  · rfl
theorem start_get {N : List Str} {vs : List V} {j : Nat} {v : V} (h : vs[j]? = some v) : (L2.start N vs)[j]? = some (some v) := by
  unfold L2.start
  have hj : j < vs.length := (List.getElem?_eq_some_iff.mp h).1
  rw [List.getElem?_append_left (by simpa using hj), List.getElem?_map, h]
  rfl
section
variable {K : PySem.W.Frag} {I H : Hp} {F : Nat → List Addr} {vs : List V} {ss : List S}
theorem StR.enter {N : List Str} (h : StR K (arV vs) I H (vs.map some) (ss.map some) F) (hl : ss.length ≤ N.length) : StR K (arV vs) I H (L2.start N vs) (startS N.length ss) F := by
  have e : ss.length = vs.length := by
    have := h.len
    simpa using this
  refine ⟨h.sub, fun j r q => ?_, fun j q => h.non j (by rw [gets_map, ← gets_startS (n := N.length)]; exact q), h.dis, h.notI, fun j v r a q => .inr (start_get a), ?_⟩
  · rw [gets_startS, ← gets_map] at q
    obtain ⟨v, e1, s⟩ := h.rep j r q
    refine ⟨v, start_get ?_, s⟩
    rw [List.getElem?_map] at e1
    cases e2 : vs[j]? with
    | none => rw [e2] at e1; cases e1
    | some w =>
      rw [e2] at e1
      cases e1
      rfl
  · rw [startS_length hl]
    unfold L2.start
    rw [List.length_append, List.length_map, List.length_replicate]
    omega
theorem StR.leave {σ : L2.St} {σs : SSt} (h : StR K (arV vs) I H σ σs F) (hl : vs.length ≤ σs.length) : ∃ F', StR K (arV vs) I H (vs.map some) (endS vs.length σs) F' ∧ ∀ a, own F' a → own F a := by
  refine ⟨fun j => if (gets (endS vs.length σs) j).isSome = true then F j else [], ⟨h.sub, fun j r q => ?_, fun j q => ?_, fun i j a m m' => ?_, fun j a m => ?_, fun j v r a q => .inr ?_, ?_⟩, fun a m => ?_⟩
  · try dsimp only
    rw [q, if_pos (show (some r).isSome = true from rfl)]
    rw [gets_endS] at q
    split at q
    · rename_i hj
      cases g : gets σs j with
      | none => rw [g] at q; cases q
      | some y =>
        rw [g] at q
        have nv : (∀ d, y ≠ .val d) ∧ y = r := by
          cases y with
          | val d => cases q
          | _ =>
            cases q
            exact ⟨fun d => by simp, rfl⟩
        obtain ⟨nv, rfl⟩ := nv
        obtain ⟨v, e, s⟩ := h.rep j y g
        have ev := List.getElem?_eq_getElem hj
        rcases h.par j _ y ev g with ⟨d, z⟩ | z
        · exact absurd z (nv d)
        · rw [z] at e
          cases e
          exact ⟨_, by rw [List.getElem?_map, ev]; rfl, s⟩
    · cases q
  · try dsimp only
    rw [q]
    rfl
  · try dsimp only at m m'
    split at m
    · split at m'
      · exact h.dis i j a m m'
      · cases m'
    · cases m
  · try dsimp only at m
    split at m
    · exact h.notI j a m
    · cases m
  · rw [List.getElem?_map, show vs[j]? = some v from a]
    rfl
  · unfold endS
    rw [List.length_map, List.length_take, List.length_map]
    omega
  · obtain ⟨j, m⟩ := m
    try dsimp only at m
    split at m
    · exact ⟨j, m⟩
    · cases m
end

section
variable {P : Program} {w : World} {K : PySem.W.Frag} {mg : Str → Option Value} {base : Heap} {k : Nat} {f : Addr} {fd : FuncData} {N ps : List Str} {sp : Sps}
/-- the context of a def's body -/
abbrev cxG (P : Program) (w : World) (K : PySem.W.Frag) (mg : Str → Option Value) (base : Heap) (N : List Str) (qual : Str) (sc : Scope) (f : Addr) (cdv : Value) (A : Around) (outer : List Env) (s : Shared) (H : Hp) (E : XK) : Cx :=
  cxOf (L2.CX P w) P w K mg base N qual sc f cdv A outer s H E
/-- a def by its body -/
theorem fun_okG {x qual : Str} {st : Stmt} (Fn : Fun K x qual st f fd) (Sc : FnScope N ps (defScope st)) (len : ∀ ss Q E, sp ss Q E → ss.length = ps.length)
    (hbody : ∀ (cdv : Value) (A : Around) (outer : List Env) (s : Shared) (H : Hp) (Ex : XK) (vs : List V) (ss : List SV.S) (Q : QS) (E : XQ), Room k (A.deeper (envOfC qual (defScope st) s.heap.objs.size f cdv)) → (A.deeper (envOfC qual (defScope st) s.heap.objs.size f cdv)).guards = some [] → vs.length = ps.length → sp ss Q E →
      ∃ t, JSs (cxG P w K mg base N qual (defScope st) f cdv A outer s H Ex) (arV vs) (defBody st) t ∧ t (startS N.length ss) { nx := fun σ => Q (.val .none) (endS ps.length σ), rt := fun r σ => Q r (endS ps.length σ) } (fun cls ed _ => E cls ed)) : FnG P w K mg base (k + 1) f fd ps sp := by
  obtain ⟨oc, od, kV, doc, pm, an, cdv, ct, osl, rfl, lk, hcd⟩ := Fn.ex
  refine ⟨len, fun A outer s H I F args us vs ss Q E hr hgd e0 hbt rv st0 hsp => ?_⟩
  have lss := len _ _ _ hsp
  have lvs : vs.length = ps.length := by
    have := st0.len
    simp only [List.length_map] at this
    omega
  have KH : K.In s.heap := e0.mod.kin.keeps fun b o e => (e0.bs b o e).1
  have nl : s.heap.NoLimit := e0.mod.nolimit.keeps fun b o e => (e0.bs b o e).1
  have lN : ps.length ≤ N.length := by
    have := congrArg List.length Sc.pre
    rw [List.length_take] at this
    omega
  have kinds : ∀ y ∈ ps.zip us, (defScope st).names.lookup y.1 = some .local ∨ ((defScope st).names.lookup y.1 = some .cell ∧ ((cellsFrom (s.heap.objs.size + 1) (defScope st).names []).lookup y.1).isSome = true) := by
    rintro ⟨n, v⟩ hy
    exact (Sc.par n (List.of_mem_zip hy).1).imp id fun q => ⟨q, PySem.W.cellsFrom_some _ _ _ (.inl q)⟩
  refine codeAny_call_function hr.depth (KH _ _ lk) rfl Sc.co Sc.gen rfl (PySem.W.codeRec_of KH hcd) (hbt _ _ _ _ (wpAny_newFunctionEnv_cells Sc.kind kinds fun env he s1 x => ?_))
  subst he
  refine ⟨nl.keeps x.toInCall.keep, codeAny_func ?_⟩
  obtain ⟨t, ht, hq⟩ := hbody cdv A outer s H (EQ K I H F E) vs ss Q E (hr.deeper _) hgd lvs hsp
  have J := inv_start (CX := L2.CX P w) (E := EQ K I H F E) Sc hr.hd e0 lvs rv x
  have tx : TX (cxG P w K mg base N qual (defScope st) f cdv A outer s H (EQ K I H F E)) (arV vs) I H (own F) (fun cls ed _ => E cls ed) :=
    ⟨_, takes_of rfl rfl rfl rfl, fun cls d σ' I' H' F' σs' ed ev st' hed q => ⟨I', ed, ev.sameo fun _ z => z.elim, st'.sub, hed, q⟩⟩
  have st1 := st0.enter (N := N) (by omega)
  refine wpAny_mono (ht.run [] s1 (L2.start N vs) H _ J ⟨I, F, startS N.length ss, _, _, st1, tx, hq, Rch.self _⟩) (fun fl s' hs => ?_) fun e s' hs => hs
  have out : ∀ {σ' : L2.St} {H' : Hp} {v : V} {u : Value} {r : S} {R : List Addr} {I' : Hp} {F' : Nat → List Addr} {σ'' : L2.St} {σs' : SSt}, Inv (cxG P w K mg base N qual (defScope st) f cdv A outer s H (EQ K I H F E)) [] σ' H' s' → RelV v u → Evo I H (own F) I' H' (fun a => a ∈ R ∨ own F' a) → StR K (arV vs) I' H' σ'' σs' F' → σs'.length = N.length → SR K I' H' v r R →
      (∀ a ∈ R, ¬ own F' a) → (∀ a ∈ R, I' a = none) → Q r (endS ps.length σs') → CE outer P w H s (RQ K vs I H F Q) u s' := by
    intro σ' H' v u r R I' F' σ'' σs' J' rv' ev stt hlen sr nf nI q
    obtain ⟨F2, st2, k2⟩ := stt.leave (by rw [hlen]; omega)
    exact ⟨v, H', J'.os, J'.bare, J'.base, J'.hok, rv', r, R, I', F2, _, ev.sameo fun a z => z.imp id (k2 a), st2, sr, fun a m z => nf a m (k2 a z), nI, by rw [lvs]; exact q⟩
  cases fl with
  | ret u =>
    obtain ⟨v, σ', H', J', rv', r, R, I', σ'', F', σs', hn, ev, stt, sr, nf, nI, q⟩ := hs
    exact out J' rv' ev stt (by rw [stt.len]; exact hn) sr nf nI q
  | next =>
    obtain ⟨σ', H', J', I', F', σs', ev, stt, q⟩ := hs
    exact out (v := .non) (R := []) J' rfl (ev.sameo fun a z => z.elim (fun m => absurd m (by simp)) id) stt (by rw [stt.len]; exact J'.len) (.val .non) (fun a m => absurd m (by simp)) (fun a m => absurd m (by simp)) q
  | brk =>
    obtain ⟨σ', H', J', I', F', σs', ev, stt, q⟩ := hs
    exact q.elim
  | cont =>
    obtain ⟨σ', H', J', I', F', σs', ev, stt, q⟩ := hs
    exact q.elim
end

/-! ### the law's own head -/
def lawQ : QS := fun r _ => r = .val (.bool true)
def lawE : XQ := fun _ _ => False
section
variable {P : Program} {w : World} {K : PySem.W.Frag} {mg mb : Str → Option Value} {k : Nat} {fa a : Addr} {fd : FuncData} {x : Str} {sp : Sps} {s1 : Shared} {us : List Value} {ns : List Int}
/-- the script's own object, as it lies there -/
abbrev scrObj (us : List Value) : Obj := { cls := .type "list", data := .seq us.toArray }
/-- from a heap in which the script alone may be tracked -/
theorem law_from {H : Hp} (G : ∀ base : Heap, K.In base → base.Ns mainGlobals mg → FnG P w K mg base k fa fd [x] sp) (hx : ∀ (s : Shared) (u : Value), BindsTo s fd ⟨[u], []⟩ [(x, u)]) (hr : Room k callerA)
    (kin : K.In s1.heap) (nsg : s1.heap.Ns mainGlobals mg) (nsb : s1.heap.Ns builtinsNs mb) (bb : ∀ y : Str, y ≠ "__name__" → mb y = bootBuiltins y) (nol : s1.heap.NoLimit) (nog : s1.gens = #[])
    (at_a : s1.heap.get? a = some (scrObj us)) (hq : SqL K H a (ns.map V.int)) (ok : HOk P w H s1.heap) (only : ∀ b y, H b = some y → b = a ∧ ∃ xs, y = .frz (scrObj us) (.lst xs)) (noK : ∀ y, H a = some y → K.lookup a = none)
    (hsp : sp [.scr ns] lawQ lawE) : codeAny (model P w) callerA (.call (.ref fa) ⟨[.ref a], []⟩) (fun r s' => r = .ok (.ret (.bool true)) ∧ OldK s1.heap s'.heap ∧ s'.os = s1.os ∧ AllBare s'.gens) s1 := by
  -- what is no list stays in the hidden heap
  have free : ∀ b o, s1.heap.get? b = some o → o ≠ scrObj us → H b = none := by
    intro b o e ne
    cases e2 : H b with
    | none => rfl
    | some y =>
      obtain ⟨rfl, _⟩ := only b y e2
      rw [at_a] at e
      exact absurd (Option.some.inj e).symm ne
  have ns' : ∀ b (m : Str → Option Value), s1.heap.Ns b m → (hidT s1.heap H).Ns b m := by
    rintro b m ⟨o, es, ep, e, d, rest⟩
    refine ⟨o, es, ep, hidT_get e (free b o e fun z => ?_), d, rest⟩
    rw [z] at d
    cases d
  have kin' : K.In (hidT s1.heap H) := by
    intro b o e
    refine hidT_get (kin b o e) ?_
    cases e2 : H b with
    | none => rfl
    | some y =>
      have := noK y (by rw [← (only b y e2).1]; exact e2)
      rw [← (only b y e2).1, e] at this
      cases this
  have md : Mod K mg (hidT s1.heap H) := ⟨kin', ns' _ _ nsg, ⟨mb, ns' _ _ nsb, bb⟩, by
    obtain ⟨mc, h1, h2⟩ := nol
    exact ⟨mc, ns' _ _ h1, h2⟩⟩
  have env : Env0 P w K mg (hidT s1.heap H) callerA [] s1 H :=
    { frames := rfl, mod := md, bs := fun b o e => of_hidT e, bsz := Nat.le_of_eq (hidT_size _ _), funs := trivial, frf := fun b m => absurd m (by simp [frs]), hok := ok, bare := .of_eq nog }
  have st : StR K (arV [.ref a]) H H [some (.ref a)] [some (.scr ns)] (fun _ => []) :=
    { sub := .refl H
      rep := fun i r e => by
        cases i with
        | zero =>
          cases (show some (S.scr ns) = some r from e)
          exact ⟨.ref a, rfl, .scr hq⟩
        | succ i => cases i <;> cases e
      non := fun _ _ => rfl
      dis := fun i j b m => absurd m (by simp)
      notI := fun i b m => absurd m (by simp)
      par := fun i v r e _ => .inr (by
        cases i with
        | zero =>
          cases (show some (V.ref a) = some v from e)
          rfl
        | succ i => cases i <;> cases e)
      len := rfl }
  refine codeAny_mono ((G _ kin' (ns' _ _ nsg)).run callerA [] s1 H H (fun _ => []) ⟨[.ref a], []⟩ [.ref a] [.ref a] [.scr ns] lawQ lawE hr rfl env (hx s1 (.ref a)) (.cons rfl .nil) st hsp) fun r s' h => ?_
  match r, h with
  | .error e, h =>
    obtain ⟨_, _, _, _, _, _, _, _, _, _, _, _, _, _, _, _, _, z⟩ := (show L2.CX P w [] H s1 (EQ K H H (fun _ => []) lawE) e s' from h)
    exact z.elim
  | .ok .next, h => exact h.elim
  | .ok .brk, h => exact h.elim
  | .ok .cont, h => exact h.elim
  | .ok (.ret u), h =>
    obtain ⟨v, H', os, bare, un, ok', rv, r, R, I', F', ss', _, _, sr, _, _, q⟩ := h
    have q' : r = .val (.bool true) := q
    subst q'
    obtain ⟨_, pr⟩ := sr.val_inv
    cases pr
    cases rv
    refine ⟨rfl, OldK.of_keep fun b o e => ?_, os, bare⟩
    cases e2 : H b with
    | none => exact un.keep b o e e2 (by simp [frs]) (by simp)
    | some y =>
      obtain ⟨rfl, xs, rfl⟩ := only b y e2
      have := (ok' b _ (un.frzs b _ _ e2)).1
      rw [at_a] at e
      rw [← Option.some.inj e]
      exact this
theorem law_goG (G : ∀ base : Heap, K.In base → base.Ns mainGlobals mg → FnG P w K mg base k fa fd [x] sp) (hx : ∀ (s : Shared) (u : Value), BindsTo s fd ⟨[u], []⟩ [(x, u)]) (hr : Room k callerA)
    (kin : K.In s1.heap) (nsg : s1.heap.Ns mainGlobals mg) (nsb : s1.heap.Ns builtinsNs mb) (bb : ∀ y : Str, y ≠ "__name__" → mb y = bootBuiltins y) (nol : s1.heap.NoLimit) (nog : s1.gens = #[])
    (at_a : s1.heap.get? a = some (scrObj us)) (inTs : IntsAre us ns) (few : ns.length ≤ sizeLine) (hsp : sp [.scr ns] lawQ lawE) :
    codeAny (model P w) callerA (.call (.ref fa) ⟨[.ref a], []⟩) (fun r s' => r = .ok (.ret (.bool true)) ∧ OldK s1.heap s'.heap ∧ s'.os = s1.os ∧ AllBare s'.gens) s1 := by
  have rv := vals_ints inTs
  have ln := inTs.length
  cases e : K.lookup a with
  | none =>
    have hH : ∀ b y, (if b = a then some (HO.frz (scrObj us) (.lst (ns.map V.int))) else none) = some y → b = a ∧ y = .frz (scrObj us) (.lst (ns.map V.int)) := fun b y z => by
      split at z
      · rename_i h
        exact ⟨h, (Option.some.inj z).symm⟩
      · cases z
    refine law_from (H := fun b => if b = a then some (.frz (scrObj us) (.lst (ns.map V.int))) else none) G hx hr kin nsg nsb bb nol nog at_a (.inl (.inr ⟨scrObj us, if_pos rfl⟩)) (fun b y z => ?_) (fun b y z => ?_) (fun _ _ => e) hsp
    · obtain ⟨rfl, rfl⟩ := hH b y z
      exact ⟨at_a, by rw [List.length_map]; exact few, us, 0, rv, at_a⟩
    · obtain ⟨h1, h2⟩ := hH b y z
      exact ⟨h1, _, h2⟩
  | some o =>
    have eo := kin a o e
    rw [at_a] at eo
    cases eo
    exact law_from (H := fun _ => none) G hx hr kin nsg nsb bb nol nog at_a (.inr ⟨_, us.toArray, _, e, rfl, rfl, rfl, by rw [List.size_toArray, ln]; exact few, by simpa using rv⟩) (fun b y z => by cases z) (fun b y z => by cases z) (fun y z => by cases z) hsp
end
/-- what k_head leaves, from the law's promise -/
theorem walkG {l : PySem.W.OpenLaw} {n k : Nat} {pq : Program} {loose : List Str} {XP : (Str → Option Value) → Heap → Prop} {YP : World → Heap → Prop} {d : DefRec} {K : Params → PySem.W.Frag} {sp : Sps} {x : Str}
    (hn : l.most = some n) (hn2 : n ≤ sizeLine) (hdf : d.params.defaults = []) (hr : Room k callerA) (hY : ∀ (w : World) (h : Heap), YP w h → (K w.params).In h)
    (F : ∀ (w : World) (mg : Str → Option Value) (fa : Addr) (h : Heap), (K w.params).In h → h.Ns mainGlobals mg → mg d.name = some (.ref fa) →
      ∃ fd : FuncData, (∀ (s : Shared) (u : Value), BindsTo s fd ⟨[u], []⟩ [(x, u)]) ∧ ∀ base : Heap, (K w.params).In base → base.Ns mainGlobals mg → FnG l.prog w (K w.params) mg base k fa fd [x] sp)
    (hsp : ∀ ns : List Int, ns.length ≤ n → sp [.scr ns] lawQ lawE) : PySem.W.WalkO pq loose XP YP l.row.toRowW d [] (fun f vs => PySem.call f vs) := by
  refine Att.attach_call hn hdf fun w s0 s1 mg mb fa o pm cd doc a us ns G Y ho hd hcd hmg at_a inTs few nog => ?_
  have kin := hY w _ Y
  obtain ⟨fd, hx, hF⟩ := F w mg fa _ kin G.T.g hmg
  exact law_goG hF hx hr kin G.T.g G.T.b G.T.builtins G.T.nolimit nog at_a inTs (Nat.le_trans few hn2) (hsp ns few)
end SV
/-! SvN: loops by a word on what is left. -/
namespace SV
open PySem PySem.Spec PyProof.Rows L2

/-- a loop over data that stand for the items of xs -/
theorem for_map {α : Type} (f : α → PyData) {g : TGt} {tb : TSs} {D : Es} {ES : XS} (Iv : List α → SSt → Prop)
    (step : ∀ x xs σs (N : SSt → Prop), (∀ σ', Iv xs σ' → N σ') → Iv (x :: xs) σs → nd (g (f x) σs) fun σ1 => tb σ1 { D with nx := N, ct := N, bk := D.nx } ES) (fin : ∀ σs, Iv [] σs → D.nx σs) :
    ∀ (xs : List α) (σs : SSt), Iv xs σs → forT g tb (xs.map f) σs D ES
  | [], σs, h => fin σs h
  | x :: xs, σs, h => step x xs σs (fun σ' => forT g tb (xs.map f) σ' D ES) (fun σ' h' => for_map f Iv step fin xs σ' h') h
theorem for_data {g : TGt} {tb : TSs} {D : Es} {ES : XS} (Iv : List PyData → SSt → Prop)
    (step : ∀ x xs σs (N : SSt → Prop), (∀ σ', Iv xs σ' → N σ') → Iv (x :: xs) σs → nd (g x σs) fun σ1 => tb σ1 { D with nx := N, ct := N, bk := D.nx } ES) (fin : ∀ σs, Iv [] σs → D.nx σs) :
    ∀ (xs : List PyData) (σs : SSt), Iv xs σs → forT g tb xs σs D ES
  | [], σs, h => fin σs h
  | x :: xs, σs, h => step x xs σs (fun σ' => forT g tb xs σ' D ES) (fun σ' h' => for_data Iv step fin xs σ' h') h
/-- a comprehension -/
theorem lc_map {α : Type} (f : α → PyData) {g : TGt} {tt : TTs} {te : TEs} {vs : List Nat} {K : List PyData → SSt → Prop} (Iv : List α → List PyData → SSt → Prop)
    (step : ∀ x xs acc σs (N : List PyData → SSt → Prop), (∀ a σ', Iv xs a σ' → N a σ') → Iv (x :: xs) acc σs → nd (g (f x) σs) fun σ1 => tt σ1 (fun b σ2 => ifb b (te σ2 (fun r σ3 => nd r.toD fun e => acc.length < sizeLine ∧ N (acc ++ [e]) (wipeS σ3 vs)) noX) (N acc (wipeS σ2 vs))) noX)
    (fin : ∀ acc σs, Iv [] acc σs → K acc σs) : ∀ (xs : List α) (acc : List PyData) (σs : SSt), Iv xs acc σs → lcT g tt te vs (xs.map f) acc σs K
  | [], acc, σs, h => fin acc σs h
  | x :: xs, acc, σs, h => step x xs acc σs (fun a σ' => lcT g tt te vs (xs.map f) a σ' K) (fun a σ' h' => lc_map f Iv step fin xs a σ' h') h
theorem lc_data {g : TGt} {tt : TTs} {te : TEs} {vs : List Nat} {K : List PyData → SSt → Prop} (Iv : List PyData → List PyData → SSt → Prop)
    (step : ∀ x xs acc σs (N : List PyData → SSt → Prop), (∀ a σ', Iv xs a σ' → N a σ') → Iv (x :: xs) acc σs → nd (g x σs) fun σ1 => tt σ1 (fun b σ2 => ifb b (te σ2 (fun r σ3 => nd r.toD fun e => acc.length < sizeLine ∧ N (acc ++ [e]) (wipeS σ3 vs)) noX) (N acc (wipeS σ2 vs))) noX)
    (fin : ∀ acc σs, Iv [] acc σs → K acc σs) : ∀ (xs : List PyData) (acc : List PyData) (σs : SSt), Iv xs acc σs → lcT g tt te vs xs acc σs K
  | [], acc, σs, h => fin acc σs h
  | x :: xs, acc, σs, h => step x xs acc σs (fun a σ' => lcT g tt te vs xs a σ' K) (fun a σ' h' => lc_data Iv step fin xs a σ' h') h
theorem while_by2 {c : TTs} {tb : TSs} {D : Es} {ES : XS} (Iv : Nat → SSt → Prop)
    (step : ∀ n σs (N : SSt → Prop), (∀ m σ', m < n → Iv m σ' → N σ') → Iv n σs → c σs (fun b σ1 => ifb b (tb σ1 { D with nx := N, ct := N, bk := D.nx } ES) (D.nx σ1)) ES) : ∀ (k n : Nat) (σs : SSt), n < k → Iv n σs → whileT c tb k σs D ES
  | 0, n, σs, h, _ => absurd h (Nat.not_lt_zero n)
  | k + 1, n, σs, h, i => step n σs (fun σ' => whileT c tb k σ' D ES) (fun m σ' hm i' => while_by2 Iv step k m σ' (by omega) i') i
/-- how long a line may be -/
theorem size_big : (16000000 : Nat) ≤ sizeLine := by decide
theorem room1 {n : Nat} (h : n ≤ 16000000) : n ≤ sizeLine := Nat.le_trans h size_big
theorem room2 {n : Nat} (h : n < 16000000) : n < sizeLine := Nat.lt_of_lt_of_le h size_big

/-! ### data that stand for ints, strs -/
theorem eqv_int {i j : Int} : PyData.eqv (.int i) (.int j) = decide (i = j) := by
  rw [PyData.eqv]
  exact (Bool.beq_eq_decide_eq i j)
theorem eqv_str {x y : Str} : PyData.eqv (.str x) (.str y) = decide (x = y) := by
  rw [PyData.eqv]
  exact (Bool.beq_eq_decide_eq x y)
theorem dep_int {i : Int} : (PyData.int i).depth ≤ 64 := by
  rw [PyData.depth]
  decide
theorem dep_str {x : Str} : (PyData.str x).depth ≤ 64 := by
  rw [PyData.depth]
  decide
theorem dep_bool {b : Bool} : (PyData.bool b).depth ≤ 64 := by
  rw [PyData.depth]
  decide
theorem dep_none : (PyData.none).depth ≤ 64 := by
  rw [PyData.depth]
  decide
/-- two ints compared -/
theorem ifb_eqi {i j : Int} {A B : Prop} (h1 : i = j → A) (h2 : i ≠ j → B) : ifb (tru (.bool (PyData.eqv (.int i) (.int j)))) A B := by
  show ifb (PyData.eqv (.int i) (.int j)) A B
  rw [eqv_int]
  exact ifb_dec h1 h2
theorem ifb_eqs {i j : Str} {A B : Prop} (h1 : i = j → A) (h2 : i ≠ j → B) : ifb (tru (.bool (PyData.eqv (.str i) (.str j)))) A B := by
  show ifb (PyData.eqv (.str i) (.str j)) A B
  rw [eqv_str]
  exact ifb_dec h1 h2

/-! ### items by a rest -/
theorem atI_mod {α : Type} (l : List α) (h : 0 < l.length) (n : Int) : ∃ c, atI l (n % (l.length : Int)) = some c ∧ c ∈ l := by
  have h1 : 0 ≤ n % (l.length : Int) := Int.emod_nonneg n (by omega)
  have h2 : n % (l.length : Int) < l.length := Int.emod_lt_of_pos n (by omega)
  have e : n % (l.length : Int) = ((n % (l.length : Int)).toNat : Int) := by omega
  have hk : (n % (l.length : Int)).toNat < l.length := by omega
  generalize (n % (l.length : Int)).toNat = j at e hk
  exact ⟨l[j], by rw [e]; exact atI_nat (List.getElem?_eq_getElem hk), List.getElem_mem hk⟩
/-! ### shown data -/
theorem bulk_strs : ∀ ys : List Str, PyData.bulkAll (ys.map .str) = (ys.map (·.length)).sum + ys.length
  | [] => by simp [PyData.bulkAll]
  | y :: ys => by
    have ih := bulk_strs ys
    simp only [List.map_cons, PyData.bulkAll, PyData.bulk, List.sum_cons, List.length_cons, ih, Str.length]
    omega
theorem sm_strs : ∀ ys : List Str, smAll (ys.map .str) = true
  | [] => by simp [smAll]
  | y :: ys => by
    have ih := sm_strs ys
    simp [smAll, smI, ih]
theorem dep_strs : ∀ ys : List Str, PyData.depthAll (ys.map .str) ≤ 1
  | [] => by simp [PyData.depthAll]
  | y :: ys => by
    have ih := dep_strs ys
    simp only [List.map_cons, PyData.depthAll, PyData.depth]
    omega
theorem show_strs {ys : List Str} (h : (ys.map (·.length)).sum + ys.length ≤ 600000) : ReprS (.list (ys.map .str)) :=
  ⟨by rw [smI]; exact sm_strs ys, by rw [PyData.bulk, bulk_strs]; exact h, by
    have := dep_strs ys
    rw [PyData.depth]
    omega⟩
theorem show_none : ReprS .none := ⟨by rw [smI], by rw [PyData.bulk]; decide, by rw [PyData.depth]; decide⟩
theorem show_bool {b : Bool} : ReprS (.bool b) := ⟨by rw [smI], by rw [PyData.bulk]; decide, by rw [PyData.depth]; decide⟩
theorem show_int {i : Int} (h : i.natAbs < 10 ^ 18) : ReprS (.int i) := ⟨by rw [smI, decide_eq_true_eq]; exact h, by rw [PyData.bulk]; decide, by rw [PyData.depth]; decide⟩
theorem boolsOf_mapF {α : Type} (f : α → Bool) (xs : List α) : boolsOf (xs.map fun x => .bool (f x)) = some (xs.map f) := by
  have := boolsOf_map (xs.map f)
  rw [List.map_map] at this
  exact this

/-! ### comprehensions that change nothing -/
theorem sets_sets : ∀ {σ : SSt} {i : Nat} {a b : Option S}, sets (sets σ i a) i b = sets σ i b
  | [], _, _, _ => rfl
  | _ :: _, 0, _, _ => rfl
  | x :: r, n + 1, a, b => by
    show x :: sets (sets r n a) n b = x :: sets r n b
    rw [sets_sets]
theorem lc_pure {α : Type} (f e : α → PyData) {te : TEs} {v : Nat} {σ0 : SSt} {K : List PyData → SSt → Prop} (hv : v < σ0.length) (hn : sets σ0 v none = σ0) (xs : List α) (hx : xs.length ≤ 16000000)
    (step : ∀ x ∈ xs, ∀ Q : KS, Q (.val (e x)) (sets σ0 v (some (.val (f x)))) → te (sets σ0 v (some (.val (f x)))) Q noX) (fin : K (xs.map e) σ0) : lcT (gVar v) tYesS te [v] (xs.map f) [] σ0 K := by
  refine lc_map f (fun rem acc σ => ∃ done, xs = done ++ rem ∧ acc = done.map e ∧ σ = σ0) (fun x r acc σ N hN h => ?_) (fun acc σ h => ?_) xs [] σ0 ⟨[], rfl, rfl, rfl⟩
  · obtain ⟨done, e1, rfl, rfl⟩ := h
    have eg : gVar v (f x) σ = some (sets σ v (some (.val (f x)))) := by
      unfold gVar
      rw [if_pos hv]
    rw [eg]
    show te _ _ noX
    refine step x (by rw [e1]; simp) _ ?_
    have hl := congrArg List.length e1
    rw [List.length_append, List.length_cons] at hl
    refine ⟨room2 (by rw [List.length_map]; omega), hN _ _ ⟨done ++ [x], by rw [e1]; simp, by simp, ?_⟩⟩
    show sets (sets σ v (some (.val (f x)))) v none = σ
    rw [sets_sets, hn]
  · obtain ⟨done, e1, rfl, rfl⟩ := h
    rw [List.append_nil] at e1
    rw [← e1]
    exact fin
theorem forV_map {α : Type} (f : α → PyData) {i : Nat} {ds0 : List PyData} {g : TGt} {tb : TSs} {D : Es} {ES : XS} (Iv : List α → SSt → Prop) (keep : ∀ xs σs, Iv xs σs → gets σs i = some (.lst ds0))
    (step : ∀ x xs σs (N : SSt → Prop), (∀ σ', Iv xs σ' → N σ') → Iv (x :: xs) σs → nd (g (f x) σs) fun σ1 => tb σ1 { D with nx := N, ct := N, bk := D.nx } ES) (fin : ∀ σs, Iv [] σs → D.nx σs) :
    ∀ (xs : List α) (σs : SSt), Iv xs σs → forVT i ds0 g tb (xs.map f) σs D ES
  | [], σs, h => ⟨keep _ _ h, fin σs h⟩
  | x :: xs, σs, h => ⟨keep _ _ h, step x xs σs (fun σ' => forVT i ds0 g tb (xs.map f) σ' D ES) (fun σ' h' => forV_map f Iv keep step fin xs σ' h') h⟩
/-- repr(x) != repr(x) -/
theorem ifb_nes {a : Str} {A B : Prop} (h : B) : ifb (tru (.bool (!PyData.eqv (.str a) (.str a)))) A B := by
  show ifb (!PyData.eqv (.str a) (.str a)) A B
  rw [eqv_str, decide_eq_true rfl]
  exact h
theorem ifb_nei {i j : Int} {A B : Prop} (h1 : i ≠ j → A) (h2 : i = j → B) : ifb (tru (.bool (!PyData.eqv (.int i) (.int j)))) A B := by
  show ifb (!PyData.eqv (.int i) (.int j)) A B
  rw [eqv_int, ← decide_not]
  exact ifb_dec h1 fun h => h2 (Decidable.not_not.mp h)
theorem ifb_ne2 {i j : Str} {A B : Prop} (h1 : i ≠ j → A) (h2 : i = j → B) : ifb (tru (.bool (!PyData.eqv (.str i) (.str j)))) A B := by
  show ifb (!PyData.eqv (.str i) (.str j)) A B
  rw [eqv_str, ← decide_not]
  exact ifb_dec h1 fun h => h2 (Decidable.not_not.mp h)
end SV
/-! SvO: more operations on strs: split, times, replace. -/
namespace SV
open PySem PySem.Spec PyProof.Rows L2

/-! ### split -/
theorem spl_mem (S : List Nat) : ∀ (l : List Nat) (k : Nat) (acc : List Nat), ∀ p ∈ TL.spl S k acc l, (∀ c ∈ p, c ∈ acc ∨ c ∈ l) ∧ p.length ≤ acc.length + l.length
  | [], k, acc, p, hp => by
    rw [TL.spl_nil] at hp
    have : p = acc := by simpa using hp
    subst this
    exact ⟨fun c h => .inl h, by simp⟩
  | d :: r, 0, acc, p, hp => by
    by_cases h : TL.pre S (d :: r) = true
    · rw [TL.spl_hit h] at hp
      rcases List.mem_cons.mp hp with rfl | hp
      · exact ⟨fun c h => .inl h, by omega⟩
      · obtain ⟨h1, h2⟩ := spl_mem S r (S.length - 1) [] p hp
        refine ⟨fun c hc => .inr ?_, by simp at h2 ⊢; omega⟩
        rcases h1 c hc with z | z
        · cases z
        · exact List.mem_cons_of_mem _ z
    · rw [TL.spl_miss (by simpa using h)] at hp
      obtain ⟨h1, h2⟩ := spl_mem S r 0 (acc ++ [d]) p hp
      refine ⟨fun c hc => ?_, by simp at h2 ⊢; omega⟩
      rcases h1 c hc with z | z
      · rcases List.mem_append.mp z with z | z
        · exact .inl z
        · exact .inr (by simp at z; simp [z])
      · exact .inr (List.mem_cons_of_mem _ z)
  | d :: r, k + 1, acc, p, hp => by
    obtain ⟨h1, h2⟩ := spl_mem S r k acc p (show p ∈ TL.spl S k acc r from hp)
    exact ⟨fun c hc => (h1 c hc).imp id (List.mem_cons_of_mem _), by simp at h2 ⊢; omega⟩
theorem spl_len (S : List Nat) : ∀ (l : List Nat) (k : Nat) (acc : List Nat), (TL.spl S k acc l).length ≤ l.length + 1
  | [], k, acc => by rw [TL.spl_nil]; simp
  | d :: r, 0, acc => by
    by_cases h : TL.pre S (d :: r) = true
    · rw [TL.spl_hit h]
      have := spl_len S r (S.length - 1) []
      simp
      omega
    · rw [TL.spl_miss (by simpa using h)]
      have := spl_len S r 0 (acc ++ [d])
      simp
      omega
  | d :: r, k + 1, acc => by
    have := spl_len S r k acc
    show (TL.spl S k acc r).length ≤ _
    simp
    omega
theorem spl_sum (S : List Nat) : ∀ (l : List Nat) (k : Nat) (acc : List Nat), ((TL.spl S k acc l).map List.length).sum ≤ acc.length + l.length
  | [], k, acc => by rw [TL.spl_nil]; simp
  | d :: r, 0, acc => by
    by_cases h : TL.pre S (d :: r) = true
    · rw [TL.spl_hit h]
      have := spl_sum S r (S.length - 1) []
      simp at this ⊢
      omega
    · rw [TL.spl_miss (by simpa using h)]
      have := spl_sum S r 0 (acc ++ [d])
      simp at this ⊢
      omega
  | d :: r, k + 1, acc => by
    have := spl_sum S r k acc
    show ((TL.spl S k acc r).map List.length).sum ≤ _
    simp at this ⊢
    omega
/-- the parts together are no longer than the whole -/
theorem split_total {x y : Str} (hy : y.cps.toList ≠ []) (hk : y.cps.all (· < 256) = true) : ((Txt.split x y).map (·.length)).sum ≤ x.length ∧ (Txt.split x y).length ≤ x.length + 1 := by
  have e := TL.split_spl x y hy (TL.kind_ok hk)
  have h1 := spl_sum (TL.tl y) (TL.tl x) 0 []
  have h2 := spl_len (TL.tl y) (TL.tl x) 0 []
  rw [← e] at h1 h2
  have hx : (TL.tl x).length = x.length := (TL.len_tl x).symm
  rw [List.map_map] at h1
  have e2 : (List.length ∘ TL.tl) = fun z : Str => z.length := by
    funext z
    exact (TL.len_tl z).symm
  rw [e2] at h1
  rw [List.length_map] at h2
  have h1' : ((Txt.split x y).map (·.length)).sum ≤ 0 + (TL.tl x).length := h1
  omega
theorem split_facts {x y : Str} (hy : y.cps.toList ≠ []) (hk : y.cps.all (· < 256) = true) : ∀ p ∈ Txt.split x y, (PyData.strOk x = true → PyData.strOk p = true) ∧ p.length ≤ x.length := by
  intro p hp
  have e := TL.split_spl x y hy (TL.kind_ok hk)
  have hm : p.cps.toList ∈ TL.spl y.cps.toList 0 [] x.cps.toList := by
    show TL.tl p ∈ TL.spl (TL.tl y) 0 [] (TL.tl x)
    rw [← e]
    exact List.mem_map_of_mem hp
  obtain ⟨h1, h2⟩ := spl_mem _ _ _ _ _ hm
  refine ⟨fun ok => ?_, ?_⟩
  · rw [strOk_iff] at ok ⊢
    intro c hc
    rcases h1 c hc with z | z
    · cases z
    · exact ok c z
  · simpa [Str.length] using h2
def rSplit : RMs
  | .str x, [.str y], Q => ((y.length == 0) = false ∧ y.cps.all (· < 256) = true ∧ x.length + 2 ≤ sizeLine) ∧ Q (.lst ((Txt.split x y).map .str))
  | _, _, _ => False
theorem PRs.ofStrs {K : PySem.W.Frag} {I : Hp} : ∀ {ys : List Str}, (∀ y ∈ ys, PyData.strOk y = true ∧ y.length ≤ sizeLine) → PRs K I (ys.map V.str) (ys.map .str)
  | [], _ => .nil
  | y :: ys, h => .cons (.str y (h y (by simp)).1 (h y (by simp)).2) (PRs.ofStrs fun z m => h z (List.mem_cons_of_mem _ m))
section
variable {X : Cx}
theorem m_split : MOp X "str.split" rSplit := by
  intro pins s σ H I x xs v us d ds Q J sb rx rv p pv q
  cases p with
  | str a ha za =>
    rcases ds with _ | ⟨d, _ | ⟨d2, dr⟩⟩
    · exact (show False from q).elim
    · obtain ⟨y, e, p2⟩ := pv.one
      subst e
      cases p2 with
      | str b hb zb =>
        obtain ⟨⟨h1, h2, h3⟩, q⟩ := q
        have hne : b.cps.toList ≠ [] := fun z => by
          have : b.length = 0 := by simp [Str.length, ← Array.length_toList, z]
          rw [this] at h1
          cases h1
        refine mt_split pins s σ H _ _ v us _ J rx rv ⟨a, b, rfl, rfl, h1, h3, fun l hl => .newLst sb hl (PRs.ofStrs fun t ht => ?_) q⟩
        have := split_facts hne h2 t ht
        exact ⟨this.1 ha, by omega⟩
      | _ => exact (show False from q).elim
    · cases d <;> exact (show False from q).elim
  | _ => exact (show False from q).elim

/-! ### str * int -/
theorem okL_flat : ∀ (n : Nat) (x : Array Nat) (acc : Array Nat), okL x.toList → okL acc.toList → okL ((List.replicate n x).foldl (· ++ ·) acc).toList
  | 0, x, acc, _, h => h
  | n + 1, x, acc, h, h2 => by
    rw [List.replicate_succ, List.foldl_cons]
    exact okL_flat n x _ h (by rw [Array.toList_append]; exact okL_append h2 h)
theorem len_flat : ∀ (n : Nat) (x : Array Nat) (acc : Array Nat), ((List.replicate n x).foldl (· ++ ·) acc).size = acc.size + n * x.size
  | 0, x, acc => by simp
  | n + 1, x, acc => by
    rw [List.replicate_succ, List.foldl_cons, len_flat n x, Array.size_append, Nat.succ_mul]
    omega
theorem mul_facts {x : Str} {k : Int} (ok : PyData.strOk x = true) (h0 : 0 ≤ k) : PyData.strOk (Txt.mul x k) = true ∧ (Txt.mul x k).length ≤ x.length + k.toNat * x.length := by
  unfold Txt.mul
  split
  · exact ⟨by decide +kernel, Nat.zero_le _⟩
  · split
    · exact ⟨ok, by omega⟩
    · refine ⟨?_, ?_⟩
      · rw [strOk_iff] at ok ⊢
        exact okL_flat _ _ _ ok (fun c m => absurd m (by simp))
      · show ((List.replicate k.toNat x.cps).foldl (· ++ ·) #[]).size ≤ _
        rw [len_flat]
        simp only [Str.length]
        simp
def rMulS : R2s
  | .str x, .int k, Q => (0 ≤ k ∧ k ≤ 1000 ∧ x.length ≤ 1000) ∧ Q (.val (.str (Txt.mul x k)))
  | _, _, _ => False
theorem o_mulS : Op2 X (binaryOp .Mult) rMulS := by
  intro pins s σ H I x y v u d e Q J sb rx ry px py q
  cases px with
  | str a ha za =>
    cases py with
    | int k =>
      obtain ⟨⟨h1, h2, h3⟩, q⟩ := q
      obtain ⟨t, rfl⟩ := rx
      obtain ⟨t', rfl⟩ := ry
      obtain ⟨f1, f2⟩ := mul_facts (k := k) ha h1
      have hk : k.toNat ≤ 1000 := by omega
      have hm : k.toNat * a.length ≤ 1000 * 1000 := Nat.mul_le_mul hk h3
      refine PySem.SB.mul ⟨?_, fun _ _ => ?_, fun _ _ => ?_⟩ fun t'' k' => ⟨.str _, H, J.tok k', ⟨t'', rfl⟩, .val sb (.str _ f1 (room1 (by omega))) q⟩
      · have a1 : ¬ k < -(2 ^ 63 : Int) := by omega
        have a2 : ¬ k ≥ 2 ^ 63 := by omega
        simp only [decide_eq_false a1, decide_eq_false a2]
        rfl
      · rename_i h5 h6
        have h7 : (1000 : Int) ≤ (2 ^ 63 - 1) / k := by
          have : 1000 * k ≤ 2 ^ 63 - 1 := by omega
          exact (Int.le_ediv_iff_mul_le (by omega)).mpr this
        omega
      · have hm2 : a.length * k.toNat ≤ 1000000 := by rw [Nat.mul_comm]; exact hm
        unfold PySem.Builtin.Str.tooLong sizeLine
        exact decide_eq_false (by
          have : (2 : Nat) ^ 24 = 16777216 := by decide
          omega)
    | _ => exact q.elim
  | _ => exact q.elim
end

/-! ### replace: its written arguments want a token that is not the first -/
structure JAT (X : Cx) (ar : Nat → Option V) (b : Bool) (es : List Expr) (t : TPs) : Prop where
  run : ∀ (pos : Pos) (pins : List (Addr × Obj)) (s : Shared) (σ : L2.St) (I H : Hp) (F : Nat → List Addr) (σs : SSt) (Q : List PyData → SSt → Prop) (ES : XS), 1 ≤ s.toks → Inv X pins σ H s → StR X.K ar I H σ σs F → TX X ar I H (own F) ES → t σs Q ES →
    wpAny (model X.prog X.w) X.A (spliced (backTo pos (starEach es X.env))) (APs X ar pins σ b I H F σs Q) X.xe s
structure JET (X : Cx) (ar : Nat → Option V) (b m : Bool) (e : Expr) (t : TEs) : Prop where
  run : ∀ (pins : List (Addr × Obj)) (s : Shared) (σ : L2.St) (I H : Hp) (F : Nat → List Addr) (σs : SSt) (Q : KS) (ES : XS), 1 ≤ s.toks → Inv X pins σ H s → StR X.K ar I H σ σs F → TX X ar I H (own F) ES → t σs Q ES →
    wpAny (model X.prog X.w) X.A (eval e X.env) (RP X ar pins σ b m I H F σs Q) X.xe s
section
variable {X : Cx} {ar : Nat → Option V} {a e : Expr} {es : List Expr} {b1 b2 m1 : Bool} {ta te : TEs} {tp : TPs} {j : Nat} {cp bp pos : Pos}
theorem JA.t (h : JA X ar b1 es tp) : JAT X ar b1 es tp := ⟨fun pos pins s σ I H F σs Q ES _ J st tx q => h.run pos pins s σ I H F σs Q ES J st tx q⟩
theorem jat_next {pins : List (Addr × Obj)} {s1 : Shared} {σ : L2.St} {I H : Hp} {F : Nat → List Addr} {σs : SSt} {Q : List PyData → SSt → Prop} {ES : XS} {v : Value} {pos : Pos} (hr : JAT X ar b2 es tp) (h0 : 1 ≤ s1.toks) (tx : TX X ar I H (own F) ES)
    (h : RP X ar pins σ b1 true I H F σs (fun r σ1 => nd r.toD fun d => tp σ1 (fun ds σ2 => Q (d :: ds) σ2) ES) v s1) :
    wpAny (model X.prog X.w) X.A (spliced (backTo pos (starEach es X.env))) (fun us s2 => APs X ar pins σ (b1 && b2) I H F σs Q (v :: us) s2) X.xe s1 := by
  obtain ⟨x, rx, R1, I1, H1, F1, σ1, h1, r1, q1⟩ := h
  obtain ⟨d, ex, q1⟩ := nd_some q1
  obtain ⟨hb, p⟩ := h1.freeze ex
  refine thn (hr.run pos pins s1 σ _ H1 F1 σ1 _ ES h0 hb.inv hb.st (tx.go hb.evo fun _ z => z) q1) fun us s2 ⟨vs, ds, I2, H2, F2, σ2, h2, rv, pv, q2⟩ => ?_
  exact ⟨x :: vs, d :: ds, I2, H2, F2, σ2, hb.then h2, .cons r1 rv, .cons (p.sub h2.evo.up) pv, q2⟩
theorem jat_cons (ha : JE X ar b1 true e te) (hr : JAT X ar b2 es tp) (hs : starEach (e :: es) X.env = (false, eval e X.env) :: starEach es X.env := by rfl) : JAT X ar (b1 && b2) (e :: es) (pCons te tp) := by
  refine ⟨fun pos pins s σ I H F σs Q ES h0 J st tx q => ?_⟩
  rw [hs]
  show wpAny _ _ (spliced ((false, eval e X.env) :: backTo pos (starEach es X.env))) _ _ s
  exact Calls.spliced_cons (wpAny_mono (PySem.wpAny_toks_of h0 (ha.run pins s σ I H F σs _ ES J st tx q)) (fun v s1 ⟨h1, z⟩ => jat_next hr h1 tx z) fun _ _ z => z.2)
theorem jat_spec (ha : JET X ar b1 true e te) (hr : JAT X ar b2 es tp) (hs : starEach (e :: es) X.env = (false, eval e X.env) :: starEach es X.env := by rfl) : JAT X ar (b1 && b2) (e :: es) (pCons te tp) := by
  refine ⟨fun pos pins s σ I H F σs Q ES h0 J st tx q => ?_⟩
  rw [hs]
  show wpAny _ _ (spliced ((false, eval e X.env) :: backTo pos (starEach es X.env))) _ _ s
  exact Calls.spliced_cons (wpAny_mono (PySem.wpAny_toks_of h0 (ha.run pins s σ I H F σs _ ES h0 J st tx q)) (fun v s1 ⟨h1, z⟩ => jat_next hr h1 tx z) fun _ _ z => z.2)
/-- behind a + 'text' a token is out -/
theorem ja_addK {y : Str} (ha : JE X ar b1 m1 a ta) (hr : JAT X ar b2 es tp) (o1 : PyData.strOk y = true := by decide +kernel) (o2 : y.length ≤ sizeLine := by decide +kernel)
    (hs : starEach (.BinOp a .Add (.Constant (.str y) j cp) bp :: es) X.env = (false, eval (.BinOp a .Add (.Constant (.str y) j cp) bp) X.env) :: starEach es X.env := by rfl) :
    JA X ar (b1 && b2) (.BinOp a .Add (.Constant (.str y) j cp) bp :: es) (pCons (s2 rAdd ta (sC (.str y))) tp) := by
  refine ⟨fun pos pins s σ I H F σs Q ES J st tx q => ?_⟩
  rw [hs]
  show wpAny _ _ (spliced ((false, eval (.BinOp a .Add (.Constant (.str y) j cp) bp) X.env) :: backTo pos (starEach es X.env))) _ _ s
  refine Calls.spliced_cons (wpAny_BinOp (thn (ha.run pins s σ I H F σs _ ES J st tx q) fun v s1 ⟨x, rx, R1, I1, H1, F1, σ1, h1, r1, q1⟩ => ?_))
  obtain ⟨dx, ex, q1⟩ := nd_some q1
  refine Calls.Constant_str ?_
  have ho := o_add (X := X) pins { s1 with toks := s1.toks + 1 } σ H1 I1 x (.str y) v (.str y s1.toks) dx (.str y) _ (h1.inv.tok _) h1.st.sub r1 ⟨_, rfl⟩ (h1.sr.ar h1.st.sub ex) (.str y o1 o2) q1
  exact wpAny_mono (PySem.wpAny_toks_of (n := 1) (by show 1 ≤ s1.toks + 1; omega) ho) (fun v s1 ⟨h2, z⟩ => jat_next hr h2 tx (RP.of_vp h1.base z)) fun _ _ z => z.2
def sRepl (y z : Str) (to : TEs) : TEs := fun σs Q ES => to σs (fun r σ1 => match r with
  | .val (.str x) => x.length + (x.length + 1) * z.length ≤ 16777216 ∧ Q (.val (.str (Txt.replace x y z))) σ1
  | _ => False) ES
theorem je_repl {y z : Str} {i k : Nat} {p q' apos : Pos} (ho : JE X ar b1 m1 a ta) (c : Nat) (hy : y = ⟨#[c]⟩) (hc : c < 256) (hz : PyData.strOk z = true) (hne : (y == z) = false)
    (hst : starEach [.Constant (.str y) i p, .Constant (.str z) k q'] X.env = [(false, eval (.Constant (.str y) i p) X.env), (false, eval (.Constant (.str z) k q') X.env)] := by rfl)
    (hbase : attributeBase a "replace" X.env (eval a X.env) = eval a X.env := by rfl) (hline : (apos.endLine == pos.line) = true := by rfl) :
    JET X ar b1 true (.Call (.Attribute a "replace" apos) [.Constant (.str y) i p, .Constant (.str z) k q'] [] pos) (sRepl y z ta) := by
  refine ⟨fun pins s σ I H F σs Q ES h0 J st tx q => ?_⟩
  refine PySem.Call_method2 hbase hst hline (wpAny_mono (PySem.wpAny_toks_of h0 (ho.run pins s σ I H F σs _ ES J st tx q)) (fun v s1 ⟨h1, x, rx, R1, I1, H1, F1, σ1, d, r1, q1⟩ => ?_) fun _ _ z => z.2)
  cases rx with
  | val dx =>
    obtain ⟨eR, pr⟩ := d.sr.val_inv
    cases pr with
    | str w hw zw =>
      obtain ⟨q2, q4⟩ := q1
      have q3 : PyData.strOk (Txt.replace w y z) = true := by
        rw [hy, StrLaws.replace_one, ← hy]
        refine strOk_join hz _ fun t ht => (split_facts (by rw [hy]; simp) ?_ t ht).1 hw
        rw [hy]
        simp [hc]
      obtain ⟨t, rfl⟩ := r1
      refine ⟨"str", _, PySem.F.plainAttrs_str, PySem.F.slot_str_replace, PySem.F.type_str_replace, typeIs_str _ _ _, (fun _ e => nomatch e), Calls.callWith_builtin rfl (Calls.evalArgs_plain (Calls.spliced_cons (Calls.Constant_str (Calls.spliced_cons (Calls.Constant_str (Calls.spliced_nil ?_))))))⟩
      refine PySem.SC.replace (by show s1.toks ≠ 0; omega) (by show s1.toks + 1 ≠ 0; omega) (by show s1.toks ≠ s1.toks + 1; omega) hne q2 fun t' kk => ?_
      refine RP.of_vp d.base ⟨.str _, H1, d.inv.tok kk, ⟨t', rfl⟩, .val d.st.sub (.str _ q3 ?_) q4⟩
      have := TK.replace_len w y z
      exact Nat.le_trans this (Nat.le_trans q2 (by decide))
    | _ => exact (show False from q1).elim
  | _ => exact (show False from q1).elim
end
end SV
namespace K90
open PySem PySem.Spec PyProof.Rows L2 SV
def topS (i : Nat) : Stmt := PySem.Challenge.pw_coheir_k90_lines_and_words.main.body.getD i (.Pass ⟨0, 0, 0, 0⟩)
abbrev s_lawnext : Stmt := topS 9
theorem sc_lawnext : FnScope ["draws"] ["draws"] (defScope s_lawnext) := ⟨rfl, rfl, rfl, by decide +kernel, rfl, by decide +kernel, by decide +kernel⟩
abbrev s_lawspoilt : Stmt := topS 14
theorem sc_lawspoilt : FnScope ["draws", "text", "at", "sign", "kind"] ["draws", "text"] (defScope s_lawspoilt) := ⟨rfl, rfl, rfl, by decide +kernel, rfl, by decide +kernel, by decide +kernel⟩
abbrev s_numberin : Stmt := topS 5
theorem sc_numberin : FnScope ["word", "char"] ["word"] (defScope s_numberin) := ⟨rfl, rfl, rfl, by decide +kernel, rfl, by decide +kernel, by decide +kernel⟩
abbrev s_lawnumberin : Stmt := topS 13
theorem sc_lawnumberin : FnScope ["word", "k"] ["word"] (defScope s_lawnumberin) := ⟨rfl, rfl, rfl, by decide +kernel, rfl, by decide +kernel, by decide +kernel⟩
abbrev s_isname : Stmt := topS 4
theorem sc_isname : FnScope ["word", "char"] ["word"] (defScope s_isname) := ⟨rfl, rfl, rfl, by decide +kernel, rfl, by decide +kernel, by decide +kernel⟩
abbrev s_lawisname : Stmt := topS 12
theorem sc_lawisname : FnScope ["word", "sign"] ["word"] (defScope s_lawisname) := ⟨rfl, rfl, rfl, by decide +kernel, rfl, by decide +kernel, by decide +kernel⟩
abbrev s_wordsof : Stmt := topS 3
theorem sc_wordsof : FnScope ["line", "words", "word", "char"] ["line"] (defScope s_wordsof) := ⟨rfl, rfl, rfl, by decide +kernel, rfl, by decide +kernel, by decide +kernel⟩
abbrev s_lawwords : Stmt := topS 11
theorem sc_lawwords : FnScope ["line", "words", "word", "sign"] ["line"] (defScope s_lawwords) := ⟨rfl, rfl, rfl, by decide +kernel, rfl, by decide +kernel, by decide +kernel⟩
abbrev s_lawline : Stmt := topS 10
theorem sc_lawline : FnScope ["draws", "signs", "length", "k"] ["draws"] (defScope s_lawline) := ⟨rfl, rfl, rfl, by decide +kernel, rfl, by decide +kernel, by decide +kernel⟩
abbrev s_lawnumber : Stmt := topS 7
theorem sc_lawnumber : FnScope ["cell"] ["cell"] (defScope s_lawnumber) := ⟨rfl, rfl, rfl, by decide +kernel, rfl, by decide +kernel, by decide +kernel⟩
abbrev s_lawdraws : Stmt := topS 8
theorem sc_lawdraws : FnScope ["script", "draws", "cell", "rest", "k", "once", "twice"] ["script"] (defScope s_lawdraws) := ⟨rfl, rfl, rfl, by decide +kernel, rfl, by decide +kernel, by decide +kernel⟩
abbrev s_law : Stmt := topS 15
theorem sc_law : FnScope ["script", "draws", "line", "words", "word", "plain", "many", "near", "text", "told", "letters", "k", "figure"] ["script"] (defScope s_law) := ⟨rfl, rfl, rfl, by decide +kernel, rfl, by decide +kernel, by decide +kernel⟩
/-- what the top has written -/
structure Facts (K : PySem.W.Frag) (mg : Str → Option Value) where
  a_lawnext : Addr
  d_lawnext : FuncData
  F_lawnext : Fun K "_law_next" "_law_next" s_lawnext a_lawnext d_lawnext
  b_lawnext : Binds K d_lawnext ["draws"] []
  g_lawnext : mg "_law_next" = some (.ref a_lawnext)
  a_lawspoilt : Addr
  d_lawspoilt : FuncData
  F_lawspoilt : Fun K "_law_spoilt" "_law_spoilt" s_lawspoilt a_lawspoilt d_lawspoilt
  b_lawspoilt : Binds K d_lawspoilt ["draws", "text"] []
  g_lawspoilt : mg "_law_spoilt" = some (.ref a_lawspoilt)
  a_numberin : Addr
  d_numberin : FuncData
  F_numberin : Fun K "number_in" "number_in" s_numberin a_numberin d_numberin
  b_numberin : Binds K d_numberin ["word"] []
  g_numberin : mg "number_in" = some (.ref a_numberin)
  a_lawnumberin : Addr
  d_lawnumberin : FuncData
  F_lawnumberin : Fun K "_law_number_in" "_law_number_in" s_lawnumberin a_lawnumberin d_lawnumberin
  b_lawnumberin : Binds K d_lawnumberin ["word"] []
  g_lawnumberin : mg "_law_number_in" = some (.ref a_lawnumberin)
  a_isname : Addr
  d_isname : FuncData
  F_isname : Fun K "is_name" "is_name" s_isname a_isname d_isname
  b_isname : Binds K d_isname ["word"] []
  g_isname : mg "is_name" = some (.ref a_isname)
  a_lawisname : Addr
  d_lawisname : FuncData
  F_lawisname : Fun K "_law_is_name" "_law_is_name" s_lawisname a_lawisname d_lawisname
  b_lawisname : Binds K d_lawisname ["word"] []
  g_lawisname : mg "_law_is_name" = some (.ref a_lawisname)
  a_wordsof : Addr
  d_wordsof : FuncData
  F_wordsof : Fun K "words_of" "words_of" s_wordsof a_wordsof d_wordsof
  b_wordsof : Binds K d_wordsof ["line"] []
  g_wordsof : mg "words_of" = some (.ref a_wordsof)
  a_lawwords : Addr
  d_lawwords : FuncData
  F_lawwords : Fun K "_law_words" "_law_words" s_lawwords a_lawwords d_lawwords
  b_lawwords : Binds K d_lawwords ["line"] []
  g_lawwords : mg "_law_words" = some (.ref a_lawwords)
  a_lawline : Addr
  d_lawline : FuncData
  F_lawline : Fun K "_law_line" "_law_line" s_lawline a_lawline d_lawline
  b_lawline : Binds K d_lawline ["draws"] []
  g_lawline : mg "_law_line" = some (.ref a_lawline)
  a_lawnumber : Addr
  d_lawnumber : FuncData
  F_lawnumber : Fun K "_law_number" "_law_number" s_lawnumber a_lawnumber d_lawnumber
  b_lawnumber : Binds K d_lawnumber ["cell"] []
  g_lawnumber : mg "_law_number" = some (.ref a_lawnumber)
  a_lawdraws : Addr
  d_lawdraws : FuncData
  F_lawdraws : Fun K "_law_draws" "_law_draws" s_lawdraws a_lawdraws d_lawdraws
  b_lawdraws : Binds K d_lawdraws ["script"] []
  g_lawdraws : mg "_law_draws" = some (.ref a_lawdraws)
  a_law : Addr
  d_law : FuncData
  F_law : Fun K "law" "law" s_law a_law d_law
  b_law : Binds K d_law ["script"] []
  g_law : mg "law" = some (.ref a_law)
  m_all : mg "all" = none
  m_int : mg "int" = none
  m_len : mg "len" = none
  m_range : mg "range" = none
  m_repr : mg "repr" = none
  m_str : mg "str" = none
  t_FIGURES : Tok
  g_FIGURES : mg "FIGURES" = some (.str "0123456789" t_FIGURES)
  t_SMALL : Tok
  g_SMALL : mg "SMALL" = some (.str "abcdefghijklmnopqrstuvwxyz" t_SMALL)
theorem len_of1 {sp : Sps} {n : Nat} (h : ∀ ss Q E, sp ss Q E → ss.length = n) : ∀ ss Q E, sp ss Q E → ss.length = n := h
def I2 (ns : List Int) : List PyData := ns.map PyData.int
def sp_lawnumber : Sps := fun ss Q _ => ∃ i : Int, ss = [.val (.int i)] ∧ ∀ j : Int, Q (.val (.int j)) [none]
theorem len_lawnumber : ∀ ss Q E, sp_lawnumber ss Q E → ss.length = 1 := by rintro _ _ _ ⟨i, rfl, _⟩; rfl
def sp_lawnext : Sps := fun ss Q _ => ∃ ns : List Int, ss = [.lst (I2 ns)] ∧ ∀ (n : Int) (ms : List Int), Q (.val (.int n)) [some (.lst (I2 ms))]
theorem len_lawnext : ∀ ss Q E, sp_lawnext ss Q E → ss.length = 1 := by rintro _ _ _ ⟨i, rfl, _⟩; rfl
def sp_lawdraws : Sps := fun ss Q _ => ∃ ns : List Int, ss = [.scr ns] ∧ ns.length ≤ 63 ∧ ∀ ms : List Int, Q (.lst (I2 ms)) [some (.scr ns)]
theorem len_lawdraws : ∀ ss Q E, sp_lawdraws ss Q E → ss.length = 1 := by rintro _ _ _ ⟨i, rfl, _⟩; rfl
def sp_lawline : Sps := fun ss Q _ => ∃ ns : List Int, ss = [.lst (I2 ns)] ∧ ∀ (x : Str) (ms : List Int), x.length ≤ 24 → Q (.val (.str x)) [some (.lst (I2 ms))]
theorem len_lawline : ∀ ss Q E, sp_lawline ss Q E → ss.length = 1 := by rintro _ _ _ ⟨i, rfl, _⟩; rfl
def sp_lawspoilt : Sps := fun ss Q _ => ∃ (ns : List Int) (x : Str), ss = [.lst (I2 ns), .val (.str x)] ∧ x.length ≤ 100000 ∧ ∀ (y : Str) (ms : List Int), y.length ≤ 2 * x.length + 1 → Q (.val (.str y)) [some (.lst (I2 ms)), none]
theorem len_lawspoilt : ∀ ss Q E, sp_lawspoilt ss Q E → ss.length = 2 := by rintro _ _ _ ⟨i, x, rfl, _⟩; rfl
/-! ### what is asked -/
def okC (c : Nat) : Bool := decide (33 ≤ c) && decide (c ≤ 126)
def okL (u : List Nat) : Bool := !u.isEmpty && u.all okC
def wordsOf (x : Str) : Option (List Str) := if ((Txt.split x " ").all fun w => okL w.cps.toList) = true then some (Txt.split x " ") else none
def resW : Option (List Str) → S
  | none => .val .none
  | some ws => .lst (ws.map .str)
def sp_wordsof : Sps := fun ss Q _ => ∃ x : Str, ss = [.val (.str x)] ∧ x.length ≤ 100000 ∧ Q (resW (wordsOf x)) [none]
theorem len_wordsof : ∀ ss Q E, sp_wordsof ss Q E → ss.length = 1 := by rintro _ _ _ ⟨i, rfl, _⟩; rfl
def sp_lawwords : Sps := sp_wordsof
theorem len_lawwords : ∀ ss Q E, sp_lawwords ss Q E → ss.length = 1 := len_wordsof
def inS (y : Str) (c : Nat) : Bool := !(Builtin.Str.occurrences y ⟨#[c]⟩ 0 y.length 1).isEmpty
def nm (w : Str) : Bool := (decide (1 ≤ w.length) && decide (w.length ≤ 12)) && w.cps.toList.all (inS "abcdefghijklmnopqrstuvwxyz")
def sp_isname : Sps := fun ss Q _ => ∃ x : Str, ss = [.val (.str x)] ∧ Q (.val (.bool (nm x))) [none]
theorem len_isname : ∀ ss Q E, sp_isname ss Q E → ss.length = 1 := by rintro _ _ _ ⟨i, rfl, _⟩; rfl
def sp_lawisname : Sps := sp_isname
theorem len_lawisname : ∀ ss Q E, sp_lawisname ss Q E → ss.length = 1 := len_isname
/-- one or two figures, the first of two none 0 -/
def isNum (l : List Nat) : Bool := (decide (1 ≤ l.length) && decide (l.length ≤ 2)) && l.all (fun c => decide (48 ≤ c ∧ c ≤ 57)) && !(decide (l.length = 2) && decide (l[0]? = some 48))
def numIn (w : Str) : PyData := if isNum w.cps.toList = true then .int (NumText.digitsVal w.cps.toList : Nat) else .none
def sp_numberin : Sps := fun ss Q _ => ∃ x : Str, ss = [.val (.str x)] ∧ Q (.val (numIn x)) [none]
theorem len_numberin : ∀ ss Q E, sp_numberin ss Q E → ss.length = 1 := by rintro _ _ _ ⟨i, rfl, _⟩; rfl
def sp_lawnumberin : Sps := sp_numberin
theorem len_lawnumberin : ∀ ss Q E, sp_lawnumberin ss Q E → ss.length = 1 := len_numberin
def sp_law : Sps := fun ss Q _ => ∃ ns : List Int, ss = [.scr ns] ∧ ns.length ≤ 63 ∧ Q (.val (.bool true)) [some (.scr ns)]
theorem len_law : ∀ ss Q E, sp_law ss Q E → ss.length = 1 := by rintro _ _ _ ⟨i, rfl, _⟩; rfl
theorem sp_start (ns : List Int) (h : ns.length ≤ 63) : sp_law [.scr ns] lawQ lawE := ⟨ns, rfl, h, rfl⟩
/-! ### words: cut at the blanks, or sign by sign -/
theorem e33 : ("!" : Str).cps.toList = [33] := by decide +kernel
theorem e126 : ("~" : Str).cps.toList = [126] := by decide +kernel
theorem e32 : (" " : Str).cps.toList = [32] := by decide +kernel
theorem lt1 (a b : Nat) : decide ([a] < [b]) = decide (a < b) := by
  by_cases h : a < b
  · rw [decide_eq_true h, decide_eq_true (List.cons_lt_cons_iff.mpr (.inl h))]
  · rw [decide_eq_false h, decide_eq_false fun z => ?_]
    rcases List.cons_lt_cons_iff.mp z with z | ⟨_, z⟩
    · exact h z
    · cases z
theorem le33 (c : Nat) : (!decide ((⟨#[c]⟩ : Str).cps.toList < ("!" : Str).cps.toList)) = decide (33 ≤ c) := by
  rw [e33]
  show (!decide ([c] < [33])) = _
  rw [lt1, ← decide_not]
  exact decide_eq_decide.mpr (by omega)
theorem le126 (c : Nat) : (!decide (("~" : Str).cps.toList < (⟨#[c]⟩ : Str).cps.toList)) = decide (c ≤ 126) := by
  rw [e126]
  show (!decide ([126] < [c])) = _
  rw [lt1, ← decide_not]
  exact decide_eq_decide.mpr (by omega)
theorem blank1 (c : Nat) : (⟨#[c]⟩ : Str) = " " ↔ c = 32 := by
  constructor
  · intro h
    have := congrArg (fun z : Str => z.cps.toList) h
    rw [e32] at this
    simpa using this
  · intro h
    subst h
    decide +kernel
theorem str_ext {x y : Str} (h : x.cps.toList = y.cps.toList) : x = y := TL.ext_tl h
theorem empty1 (u : List Nat) : (⟨u.toArray⟩ : Str) = "" ↔ u = [] := by
  have e0 : ("" : Str).cps.toList = [] := by decide +kernel
  constructor
  · intro h
    have := congrArg (fun z : Str => z.cps.toList) h
    rw [e0] at this
    simpa using this
  · intro h
    subst h
    exact str_ext (by rw [e0])
def mk (u : List Nat) : Str := ⟨u.toArray⟩
def scanW : List Nat → List Str → List Nat → Option (List Str)
  | [], ws, _ => some ws
  | c :: r, ws, u => if c = 32 then (if u = [] then none else scanW r (ws ++ [mk u]) []) else if okC c = true then scanW r ws (u ++ [c]) else none
theorem spl_head (s : Nat) : ∀ (r acc : List Nat), ∃ t rest, TL.spl [s] 0 acc r = (acc ++ t) :: rest
  | [], acc => ⟨[], [], by rw [TL.spl_nil]; simp⟩
  | c :: r, acc => by
    by_cases h : TL.pre [s] (c :: r) = true
    · rw [TL.spl_hit h]
      exact ⟨[], _, by simp; rfl⟩
    · rw [TL.spl_miss (by simpa using h)]
      obtain ⟨t, rest, e⟩ := spl_head s r (acc ++ [c])
      exact ⟨c :: t, rest, by rw [e]; simp⟩
theorem scan_spl : ∀ (l : List Nat) (ws : List Str) (u : List Nat), u.all okC = true → scanW (l ++ [32]) ws u = if ((TL.spl [32] 0 u l).all okL) = true then some (ws ++ (TL.spl [32] 0 u l).map mk) else none
  | [], ws, u, hu => by
    rw [TL.spl_nil]
    show (if 32 = 32 then (if u = [] then none else scanW [] (ws ++ [mk u]) []) else _) = _
    rw [if_pos rfl]
    cases u with
    | nil => rfl
    | cons a r =>
      have e : ([a :: r].all okL) = true := by
        show (okL (a :: r) && true) = true
        unfold okL
        rw [hu]
        rfl
      rw [if_pos e, if_neg (by simp)]
      rfl
  | c :: r, ws, u, hu => by
    show (if c = 32 then (if u = [] then none else scanW (r ++ [32]) (ws ++ [mk u]) []) else if okC c = true then scanW (r ++ [32]) ws (u ++ [c]) else none) = _
    by_cases hc : c = 32
    · subst hc
      have hp : TL.pre [32] (32 :: r) = true := by
        show ((32 :: r).take 1 == [32]) = true
        simp
      rw [if_pos rfl, TL.spl_hit hp]
      show _ = if ((u :: TL.spl [32] 0 [] r).all okL) = true then some (ws ++ (u :: TL.spl [32] 0 [] r).map mk) else none
      rw [scan_spl r (ws ++ [mk u]) [] rfl]
      by_cases h0 : u = []
      · subst h0
        rw [if_pos rfl, if_neg (by simp [okL])]
      · rw [if_neg h0]
        have hk : okL u = true := by
          unfold okL
          rw [hu]
          cases u with
          | nil => exact absurd rfl h0
          | cons => rfl
        simp only [List.all_cons, hk, Bool.true_and, List.map_cons, List.append_assoc, List.singleton_append]
    · have hp : TL.pre [32] (c :: r) = false := TL.pre_of_head _ _ hc
      rw [if_neg hc, TL.spl_miss hp]
      by_cases ho : okC c = true
      · rw [if_pos ho]
        exact scan_spl r ws (u ++ [c]) (by rw [List.all_append, hu]; simp [ho])
      · rw [if_neg ho]
        obtain ⟨t, rest, e⟩ := spl_head 32 r (u ++ [c])
        rw [e, if_neg]
        simp [okL, ho]
theorem words_scan (x : Str) : scanW (x.cps.toList ++ [32]) [] [] = wordsOf x := by
  have e := TL.split_spl x " " (by rw [show TL.tl " " = [32] from e32]; simp) (TL.kind_ok (by decide +kernel))
  rw [show TL.tl " " = [32] from e32] at e
  have e2 : (TL.spl [32] 0 [] x.cps.toList).map mk = Txt.split x " " := by
    show (TL.spl [32] 0 [] (TL.tl x)).map mk = _
    rw [← e, List.map_map]
    have : mk ∘ TL.tl = id := by
      funext z
      exact str_ext (by simp [mk, TL.tl])
    rw [this, List.map_id]
  have e3 : ((TL.spl [32] 0 [] x.cps.toList).all okL) = ((Txt.split x " ").all fun w => okL w.cps.toList) := by
    show ((TL.spl [32] 0 [] (TL.tl x)).all okL) = _
    rw [← e, List.all_map]
    rfl
  rw [scan_spl _ _ _ rfl, e2, e3]
  rfl
/-! ### numbers of one or two figures -/
theorem efig : ("0123456789" : Str).cps.toList = [48, 49, 50, 51, 52, 53, 54, 55, 56, 57] := by decide +kernel
theorem inFig (c : Nat) : inS "0123456789" c = decide (48 ≤ c ∧ c ≤ 57) := by
  unfold inS
  rw [StrLaws.found_one, efig]
  refine decide_eq_decide.mpr ?_
  simp only [List.mem_cons, List.not_mem_nil, or_false]
  omega
def numS (i : Nat) : Str := Str.ofString (toString ((0 : Int) + (i : Int)))
theorem numS_list (i : Nat) : (numS i).cps.toList = TL.numL i := by
  unfold numS
  rw [Int.zero_add]
  exact TL.tl_num i
theorem num2 {i : Nat} (h : 10 ≤ i) (h2 : i < 100) : TL.numL i = [48 + i / 10, 48 + i % 10] := by
  rw [TL.numL_step h, TL.numL_lt (by omega)]
  rfl
theorem isNum_num {i : Nat} (h : i < 100) : isNum (TL.numL i) = true := by
  by_cases h1 : i < 10
  · rw [TL.numL_lt h1]
    simp [isNum]
    omega
  · rw [num2 (by omega) h]
    simp [isNum]
    omega
theorem num_of {l : List Nat} (h : isNum l = true) : ∃ i, i < 100 ∧ TL.numL i = l := by
  unfold isNum at h
  simp only [Bool.and_eq_true, decide_eq_true_eq, List.all_eq_true, Bool.not_eq_true', Bool.and_eq_false_iff, decide_eq_false_iff_not] at h
  obtain ⟨⟨⟨h1, h2⟩, h3⟩, h4⟩ := h
  match l, h1, h2, h3, h4 with
  | [], h1, _, _, _ => simp at h1
  | [a], _, _, h3, _ =>
    have ha := h3 a (by simp)
    refine ⟨a - 48, by omega, ?_⟩
    rw [TL.numL_lt (by omega)]
    rw [show 48 + (a - 48) = a by omega]
  | [a, b], _, _, h3, h4 =>
    have ha := h3 a (by simp)
    have hb := h3 b (by simp)
    have h48 : a ≠ 48 := by
      rcases h4 with h4 | h4
      · simp at h4
      · simpa using h4
    refine ⟨(a - 48) * 10 + (b - 48), by omega, ?_⟩
    rw [num2 (by omega) (by omega)]
    rw [show 48 + ((a - 48) * 10 + (b - 48)) / 10 = a by omega, show 48 + ((a - 48) * 10 + (b - 48)) % 10 = b by omega]
  | _ :: _ :: _ :: _, _, h2, _, _ => simp at h2
theorem in_nums (x : Str) : inD (.str x) ((List.range 100).map fun i => .str (numS i)) = isNum x.cps.toList := by
  unfold inD
  rw [List.any_map]
  by_cases h : isNum x.cps.toList = true
  · obtain ⟨i, hi, e⟩ := num_of h
    rw [h, List.any_eq_true]
    refine ⟨i, by simp [hi], ?_⟩
    show PyData.eqv (.str (numS i)) (.str x) = true
    rw [eqv_str, decide_eq_true_eq]
    exact str_ext (by rw [numS_list, e])
  · have h' : isNum x.cps.toList = false := by simpa using h
    rw [h', List.any_eq_false]
    intro i hi z
    have z' : PyData.eqv (.str (numS i)) (.str x) = true := z
    rw [eqv_str, decide_eq_true_eq] at z'
    rw [← z', numS_list] at h
    exact h (isNum_num (by simpa using hi))
theorem int_of {x : Str} (h : isNum x.cps.toList = true) : PySem.intText? x = some ((NumText.digitsVal x.cps.toList : Nat) : Int) ∧ x.length ≤ 2 := by
  unfold isNum at h
  simp only [Bool.and_eq_true, decide_eq_true_eq, List.all_eq_true] at h
  obtain ⟨⟨⟨h1, h2⟩, h3⟩, _⟩ := h
  have hl : x.cps.toList.length = x.length := by simp [Str.length]
  refine ⟨PySem.intText_digits (fun c hc => h3 c hc) (fun z => ?_) (by omega), by omega⟩
  rw [z] at h1
  simp at h1
section
variable {P : Program} {w : World} {K : PySem.W.Frag} {mg : Str → Option Value} {base : Heap}
/-! ### _law_next: slots 0 draws -/
theorem ok_lawnext (T : Facts K mg) : FnG P w K mg base 1 T.a_lawnext T.d_lawnext ["draws"] sp_lawnext := by
  refine fun_okG T.F_lawnext sc_lawnext len_lawnext fun cdv A outer s H Ex vs ss Q E hr hg lv h => ?_
  have hu := hr.units
  have hu5 : (A.deeper (envOfC "_law_next" (defScope s_lawnext) s.heap.objs.size T.a_lawnext cdv)).units + 65 < cLine := by have := hr.un; omega
  have np : PassesOwn (model P w) (A.deeper (envOfC "_law_next" (defScope s_lawnext) s.heap.objs.size T.a_lawnext cdv)) (envOfC "_law_next" (defScope s_lawnext) s.heap.objs.size T.a_lawnext cdv) (cxG P w K mg base ["draws"] "_law_next" (defScope s_lawnext) T.a_lawnext cdv A outer s H Ex).xe := PassesOwn.leaving
  obtain ⟨ns, rfl, q⟩ := h
  refine ⟨_, (jss_cons (js_if (jt_val (je_view 0)) (jss_one (js_ret (je_mut0 0 PySem.F.slot_list_pop PySem.F.type_list_pop u_pop))) jss_nil)
    (jss_one (js_ret je_int))), ?_⟩
  cases ns with
  | nil => exact q _ []
  | cons n r =>
    have e : ((n :: r).map PyData.int).getLast? = some (.int ((n :: r).getLast (List.cons_ne_nil n r))) := by
      rw [List.getLast?_map, List.getLast?_eq_getLast (List.cons_ne_nil n r)]
      rfl
    refine need_of e ?_
    have e2 : I2 (n :: r).dropLast = ((n :: r).map PyData.int).dropLast := List.map_dropLast
    have q2 := q ((n :: r).getLast (List.cons_ne_nil n r)) (n :: r).dropLast
    rw [e2] at q2
    exact q2
/-! ### _law_spoilt: slots 0 draws, 1 text, 2 at, 3 sign, 4 kind -/
theorem ok_lawspoilt (T : Facts K mg) : FnG P w K mg base 2 T.a_lawspoilt T.d_lawspoilt ["draws", "text"] sp_lawspoilt := by
  have G_lawnext := ok_lawnext (P := P) (w := w) (base := base) T
  refine fun_okG T.F_lawspoilt sc_lawspoilt len_lawspoilt fun cdv A outer s H Ex vs ss Q E hr hg lv h => ?_
  have hu := hr.units
  have hu5 : (A.deeper (envOfC "_law_spoilt" (defScope s_lawspoilt) s.heap.objs.size T.a_lawspoilt cdv)).units + 65 < cLine := by have := hr.un; omega
  have np : PassesOwn (model P w) (A.deeper (envOfC "_law_spoilt" (defScope s_lawspoilt) s.heap.objs.size T.a_lawspoilt cdv)) (envOfC "_law_spoilt" (defScope s_lawspoilt) s.heap.objs.size T.a_lawspoilt cdv) (cxG P w K mg base ["draws", "text", "at", "sign", "kind"] "_law_spoilt" (defScope s_lawspoilt) T.a_lawspoilt cdv A outer s H Ex).xe := PassesOwn.leaving
  obtain ⟨ns, x, rfl, hx, q⟩ := h
  refine ⟨_, (jss_cons (js_setv (i := 2) (je_op2 o_mod (je_callT c_int (by rfl) T.m_int boot_int (jr_one (je_call G_lawnext (hr.mono (by decide)) hg (by rfl) T.g_lawnext T.F_lawnext.kp T.b_lawnext (jc_lent 0 jc_nil)))) (je_op2 o_add (je_callB c_len (by rfl) T.m_len boot_len (jr_one (je_var 1))) je_int)) sc_lawspoilt.nd rfl (by first | exact .inl rfl | exact .inr rfl))
    (jss_cons (js_setv (i := 3) (je_ix o_ix je_str (je_op2 o_mod (je_callT c_int (by rfl) T.m_int boot_int (jr_one (je_call G_lawnext (hr.mono (by decide)) hg (by rfl) T.g_lawnext T.F_lawnext.kp T.b_lawnext (jc_lent 0 jc_nil)))) je_int)) sc_lawspoilt.nd rfl (by first | exact .inl rfl | exact .inr rfl))
    (jss_cons (js_setv (i := 4) (je_op2 o_mod (je_callT c_int (by rfl) T.m_int boot_int (jr_one (je_call G_lawnext (hr.mono (by decide)) hg (by rfl) T.g_lawnext T.F_lawnext.kp T.b_lawnext (jc_lent 0 jc_nil)))) je_int) sc_lawspoilt.nd rfl (by first | exact .inl rfl | exact .inr rfl))
    (jss_cons (js_if (jt_cmp (o_eq hu) (je_var 4) je_int) (jss_one (js_ret (je_op2 o_add (je_op2 o_add (je_slice o_sl (je_var 1) jo_none (jo_some (je_var 2))) (je_var 3)) (je_slice o_sl (je_var 1) (jo_some (je_var 2)) jo_none)))) jss_nil)
    (jss_cons (js_if (jt_cmp (o_eq hu) (je_var 4) je_int) (jss_one (js_ret (je_op2 o_add (je_op2 o_add (je_slice o_sl (je_var 1) jo_none (jo_some (je_var 2))) (je_var 3)) (je_slice o_sl (je_var 1) (jo_some (je_op2 o_add (je_var 2) je_int)) jo_none)))) jss_nil)
    (jss_one (js_ret (je_op2 o_add (je_slice o_sl (je_var 1) jo_none (jo_some (je_var 2))) (je_slice o_sl (je_var 1) (jo_some (je_op2 o_add (je_var 2) je_int)) jo_none))))))))), ?_⟩
  have c1 : ∀ lo hi, (cutS x lo hi).length ≤ x.length := fun lo hi => cutS_length x lo hi
  have l1 : ∀ (a b : Str), (a ++ b).length = a.length + b.length := fun a b => str_append_length a b
  have l0 : ∀ c : Nat, (⟨#[c]⟩ : Str).length = 1 := fun _ => rfl
  refine And.intro rfl ⟨ns, rfl, fun n ms => ?_⟩
  refine And.intro (show (0 : Int) < (x.length : Int) + 1 by omega) ?_
  refine And.intro rfl ⟨ms, rfl, fun n2 ms2 => ?_⟩
  have pos : 0 < ("0123456789 :|aZ" : Str).cps.toList.length := by decide +kernel
  obtain ⟨c, ec, _⟩ := atI_mod ("0123456789 :|aZ" : Str).cps.toList pos n2
  have e15 : ((("0123456789 :|aZ" : Str).cps.toList.length : Nat) : Int) = 15 := by decide +kernel
  rw [e15] at ec
  refine And.intro (by decide) (need_of ec ?_)
  refine And.intro rfl ⟨ms2, rfl, fun n3 ms3 => ?_⟩
  refine And.intro (by decide) ?_
  refine And.intro ⟨dep_int, dep_int⟩ (ifb_eqi (fun _ => ?_) fun _ => ?_)
  · have h1 := c1 none (some (n % ((x.length : Int) + 1)))
    have h2 := c1 (some (n % ((x.length : Int) + 1))) none
    refine And.intro (room1 (by rw [l0]; omega)) (And.intro (room1 (by rw [l1, l0]; omega)) (q _ ms3 ?_))
    rw [l1, l1, l0]
    omega
  · refine And.intro ⟨dep_int, dep_int⟩ (ifb_eqi (fun _ => ?_) fun _ => ?_)
    · have h1 := c1 none (some (n % ((x.length : Int) + 1)))
      have h2 := c1 (some (n % ((x.length : Int) + 1) + 1)) none
      refine And.intro (room1 (by rw [l0]; omega)) (And.intro (room1 (by rw [l1, l0]; omega)) (q _ ms3 ?_))
      rw [l1, l1, l0]
      omega
    · have h1 := c1 none (some (n % ((x.length : Int) + 1)))
      have h2 := c1 (some (n % ((x.length : Int) + 1) + 1)) none
      refine And.intro (room1 (by omega)) (q _ ms3 ?_)
      rw [l1]
      omega
/-! ### number_in: slots 0 word, 1 char -/
theorem ok_numberin (T : Facts K mg) : FnG P w K mg base 1 T.a_numberin T.d_numberin ["word"] sp_numberin := by
  refine fun_okG T.F_numberin sc_numberin len_numberin fun cdv A outer s H Ex vs ss Q E hr hg lv h => ?_
  have hu := hr.units
  have hu5 : (A.deeper (envOfC "number_in" (defScope s_numberin) s.heap.objs.size T.a_numberin cdv)).units + 65 < cLine := by have := hr.un; omega
  have np : PassesOwn (model P w) (A.deeper (envOfC "number_in" (defScope s_numberin) s.heap.objs.size T.a_numberin cdv)) (envOfC "number_in" (defScope s_numberin) s.heap.objs.size T.a_numberin cdv) (cxG P w K mg base ["word", "char"] "number_in" (defScope s_numberin) T.a_numberin cdv A outer s H Ex).xe := PassesOwn.leaving
  obtain ⟨x, rfl, q⟩ := h
  refine ⟨_, (jss_cons (js_if (jw_or (jt_not (jt_chain o_le o_le je_int (je_callB c_len (by rfl) T.m_len boot_len (jr_one (je_var 0))) je_int)) (jw_or1 (jt_not (jt_val (je_callB (c_all rfl) (by rfl) T.m_all boot_all (jr_one (je_lc rfl sc_numberin.nd (ji_seq (je_var 0)) (blkOk_by (own := [("char", 1)]) (by rfl)) (by decide) (fun _ _ _ _ _ => (jg_name (i := 1) sc_numberin.nd rfl (by first | exact .inl rfl | exact .inr rfl))) (fun _ _ _ _ _ => jq_nil) (fun _ _ _ _ _ => (je_cmp (o_in hu5) (je_var 1) (je_glob (v := V.str "0123456789") (d := .str "0123456789") (by rfl) T.g_FIGURES ⟨_, rfl⟩ fun _ => .str _ (by decide +kernel) (by decide +kernel))))))))))).jt (jss_one (js_ret je_non)) jss_nil)
    (jss_cons (js_if (jw_and (jt_cmp (o_eq hu) (je_callB c_len (by rfl) T.m_len boot_len (jr_one (je_var 0))) je_int) (jw_and1 (jt_cmp (o_eq hu) (je_ix o_ix (je_var 0) je_int) je_str))).jt (jss_one (js_ret je_non)) jss_nil)
    (jss_one (js_ret (je_callT c_int (by rfl) T.m_int boot_int (jr_one (je_var 0))))))), ?_⟩
  have hlx : x.cps.toList.length = x.length := by simp [Str.length]
  have no : isNum x.cps.toList = false → Q (.val .none) [none] := fun hf => by
    have e3 : numIn x = .none := if_neg (by rw [hf]; decide)
    rw [e3] at q
    exact q
  refine ifb_dec (fun h1 => ?_) fun h1 => ?_
  · refine ifb_of (fun h2 => ?_) fun h2 => ?_
    · refine no ?_
      have h2' : (!decide ((x.length : Int) ≤ 2)) = true := h2
      have h3 : ¬ (x.length : Int) ≤ 2 := by simpa using h2'
      unfold isNum
      rw [hlx, decide_eq_false (show ¬ x.length ≤ 2 by omega)]
      simp
    · have h2' : (!decide ((x.length : Int) ≤ 2)) = false := h2
      have h3 : (x.length : Int) ≤ 2 := by simpa using h2'
      refine lc_pure (fun c => .str ⟨#[c]⟩) (fun c => .bool (inS "0123456789" c)) (σ0 := [some (.val (.str x)), none]) (by simp) rfl x.cps.toList (by omega) (fun c _ Q2 hq => hq) ?_
      refine need_of (boolsOf_mapF _ _) ?_
      have ed : (x.cps.toList.map (inS "0123456789")).all id = x.cps.toList.all (fun c => decide (48 ≤ c ∧ c ≤ 57)) := by
        rw [List.all_map]
        congr 1
        funext c
        exact inFig c
      rw [ed]
      refine ifb_of (fun h4 => ?_) fun h4 => ?_
      · refine no ?_
        have h4' : (!(x.cps.toList.all (fun c => decide (48 ≤ c ∧ c ≤ 57)))) = true := h4
        have h5 : x.cps.toList.all (fun c => decide (48 ≤ c ∧ c ≤ 57)) = false := by simpa using h4'
        unfold isNum
        rw [h5]
        simp
      · have h4' : (!(x.cps.toList.all (fun c => decide (48 ≤ c ∧ c ≤ 57)))) = false := h4
        have h5 : x.cps.toList.all (fun c => decide (48 ≤ c ∧ c ≤ 57)) = true := by simpa using h4'
        have yes : ¬ (x.length = 2 ∧ x.cps.toList[0]? = some 48) → x.length ≤ 640 ∧ need (PySem.intText? x) fun n => Q (.val (.int n)) [none] := fun hz => by
          have hn : isNum x.cps.toList = true := by
            unfold isNum
            rw [h5, hlx, decide_eq_true (show 1 ≤ x.length by omega), decide_eq_true (show x.length ≤ 2 by omega)]
            by_cases a1 : x.length = 2
            · have a2 : ¬ x.cps.toList[0]? = some 48 := fun z => hz ⟨a1, z⟩
              rw [decide_eq_false a2]
              simp
            · rw [decide_eq_false a1]
              simp
          obtain ⟨e1, e2⟩ := int_of hn
          have e3 : numIn x = .int ((NumText.digitsVal x.cps.toList : Nat) : Int) := if_pos hn
          rw [e3] at q
          exact And.intro (by omega) (need_of e1 q)
        refine And.intro ⟨dep_int, dep_int⟩ (ifb_eqi (fun h6 => ?_) fun h6 => ?_)
        · have h7 : 0 < x.cps.toList.length := by omega
          have e0 : x.cps.toList[0]? = some x.cps.toList[0] := List.getElem?_eq_getElem h7
          refine need_of (atI_nat (j := 0) e0) ?_
          have z0 : ∀ c : Nat, (⟨#[c]⟩ : Str) = "0" ↔ c = 48 := fun c => by
            have e48 : ("0" : Str).cps.toList = [48] := by decide +kernel
            constructor
            · intro h
              have := congrArg (fun z : Str => z.cps.toList) h
              rw [e48] at this
              simpa using this
            · intro h
              subst h
              exact str_ext (by rw [e48])
          refine And.intro ⟨dep_str, dep_str⟩ (ifb_eqs (fun h8 => ?_) fun h8 => ?_)
          · refine no ?_
            have h9 := (z0 _).mp h8
            unfold isNum
            rw [hlx, decide_eq_true (show x.length = 2 by omega), e0, h9]
            simp
          · refine yes fun z => h8 ((z0 _).mpr ?_)
            rw [e0] at z
            exact Option.some.inj z.2
        · exact yes fun z => h6 (by omega)
  · refine no ?_
    unfold isNum
    rw [hlx, decide_eq_false (show ¬ 1 ≤ x.length by omega)]
    simp
/-! ### _law_number_in: slots 0 word, 1 k -/
theorem ok_lawnumberin (T : Facts K mg) : FnG P w K mg base 1 T.a_lawnumberin T.d_lawnumberin ["word"] sp_lawnumberin := by
  refine fun_okG T.F_lawnumberin sc_lawnumberin len_lawnumberin fun cdv A outer s H Ex vs ss Q E hr hg lv h => ?_
  have hu := hr.units
  have hu5 : (A.deeper (envOfC "_law_number_in" (defScope s_lawnumberin) s.heap.objs.size T.a_lawnumberin cdv)).units + 65 < cLine := by have := hr.un; omega
  have np : PassesOwn (model P w) (A.deeper (envOfC "_law_number_in" (defScope s_lawnumberin) s.heap.objs.size T.a_lawnumberin cdv)) (envOfC "_law_number_in" (defScope s_lawnumberin) s.heap.objs.size T.a_lawnumberin cdv) (cxG P w K mg base ["word", "k"] "_law_number_in" (defScope s_lawnumberin) T.a_lawnumberin cdv A outer s H Ex).xe := PassesOwn.leaving
  obtain ⟨x, rfl, q⟩ := h
  refine ⟨_, (jss_one (js_ret (je_if (jt_cmp (o_in hu5) (je_var 0) (je_lc rfl sc_lawnumberin.nd (ji_range1 (by rfl) T.m_range je_int) (blkOk_by (own := [("k", 1)]) (by rfl)) (by decide) (fun _ _ _ _ _ => (jg_name (i := 1) sc_lawnumberin.nd rfl (by first | exact .inl rfl | exact .inr rfl))) (fun _ _ _ _ _ => jq_nil) (fun _ _ _ _ _ => (je_callT c_str (by rfl) T.m_str boot_str (jr_one (je_var 1)))))) (je_callT c_int (by rfl) T.m_int boot_int (jr_one (je_var 0))) je_non))), ?_⟩
  refine And.intro ⟨by decide, by decide⟩ ?_
  refine lc_pure (fun i : Nat => .int (0 + (i : Int))) (fun i => .str (numS i)) (σ0 := [some (.val (.str x)), none]) (by simp) rfl (List.range 100) (by simp) (fun i hi Q2 hq => ?_) ?_
  · refine And.intro ?_ hq
    have h1 : i < 100 := by simpa using hi
    have h2 : ((0 : Int) + (i : Int)).natAbs < 10 ^ 18 := Nat.lt_trans (show _ < 100 by omega) (by decide)
    have := log_small h2
    omega
  · refine And.intro dep_str ?_
    show ifb (inD (.str x) ((List.range 100).map fun i => .str (numS i))) _ _
    rw [in_nums]
    refine ifb_of (fun h => ?_) fun h => ?_
    · obtain ⟨e1, e2⟩ := int_of h
      have e3 : numIn x = .int ((NumText.digitsVal x.cps.toList : Nat) : Int) := if_pos h
      rw [e3] at q
      exact And.intro (by omega) (need_of e1 q)
    · have e3 : numIn x = .none := if_neg (by rw [h]; decide)
      rw [e3] at q
      exact q
/-! ### is_name: slots 0 word, 1 char -/
theorem ok_isname (T : Facts K mg) : FnG P w K mg base 1 T.a_isname T.d_isname ["word"] sp_isname := by
  refine fun_okG T.F_isname sc_isname len_isname fun cdv A outer s H Ex vs ss Q E hr hg lv h => ?_
  have hu := hr.units
  have hu5 : (A.deeper (envOfC "is_name" (defScope s_isname) s.heap.objs.size T.a_isname cdv)).units + 65 < cLine := by have := hr.un; omega
  have np : PassesOwn (model P w) (A.deeper (envOfC "is_name" (defScope s_isname) s.heap.objs.size T.a_isname cdv)) (envOfC "is_name" (defScope s_isname) s.heap.objs.size T.a_isname cdv) (cxG P w K mg base ["word", "char"] "is_name" (defScope s_isname) T.a_isname cdv A outer s H Ex).xe := PassesOwn.leaving
  obtain ⟨x, rfl, q⟩ := h
  refine ⟨_, (jss_one (js_ret (je_and (je_chain o_le o_le je_int (je_callB c_len (by rfl) T.m_len boot_len (jr_one (je_var 0))) je_int) (je_one (je_callB (c_all rfl) (by rfl) T.m_all boot_all (jr_one (je_lc rfl sc_isname.nd (ji_seq (je_var 0)) (blkOk_by (own := [("char", 1)]) (by rfl)) (by decide) (fun _ _ _ _ _ => (jg_name (i := 1) sc_isname.nd rfl (by first | exact .inl rfl | exact .inr rfl))) (fun _ _ _ _ _ => jq_nil) (fun _ _ _ _ _ => (je_cmp (o_in hu5) (je_var 1) (je_glob (v := V.str "abcdefghijklmnopqrstuvwxyz") (d := .str "abcdefghijklmnopqrstuvwxyz") (by rfl) T.g_SMALL ⟨_, rfl⟩ fun _ => .str _ (by decide +kernel) (by decide +kernel))))))))))), ?_⟩
  refine ifb_dec (fun h1 => ifb_dec (fun h2 => ?_) fun h2 => ?_) fun h1 => ?_
  · have hl : x.cps.toList.length = x.length := by simp [Str.length]
    refine lc_pure (fun c => .str ⟨#[c]⟩) (fun c => .bool (inS "abcdefghijklmnopqrstuvwxyz" c)) (σ0 := [some (.val (.str x)), none]) (by simp) rfl x.cps.toList (by omega) (fun c _ Q hq => hq) ?_
    refine need_of (boolsOf_mapF _ _) ?_
    have e : nm x = (x.cps.toList.map (inS "abcdefghijklmnopqrstuvwxyz")).all id := by
      unfold nm
      rw [decide_eq_true (show 1 ≤ x.length by omega), decide_eq_true (show x.length ≤ 12 by omega), List.all_map]
      rfl
    rw [e] at q
    exact q
  · have e : nm x = false := by
      unfold nm
      rw [decide_eq_false (show ¬ x.length ≤ 12 by omega)]
      simp
    rw [e] at q
    rw [decide_eq_false h2]
    exact q
  · have e : nm x = false := by
      unfold nm
      rw [decide_eq_false (show ¬ 1 ≤ x.length by omega)]
      simp
    rw [e] at q
    exact q
/-! ### _law_is_name: slots 0 word, 1 sign -/
theorem ok_lawisname (T : Facts K mg) : FnG P w K mg base 1 T.a_lawisname T.d_lawisname ["word"] sp_lawisname := by
  refine fun_okG T.F_lawisname sc_lawisname len_lawisname fun cdv A outer s H Ex vs ss Q E hr hg lv h => ?_
  have hu := hr.units
  have hu5 : (A.deeper (envOfC "_law_is_name" (defScope s_lawisname) s.heap.objs.size T.a_lawisname cdv)).units + 65 < cLine := by have := hr.un; omega
  have np : PassesOwn (model P w) (A.deeper (envOfC "_law_is_name" (defScope s_lawisname) s.heap.objs.size T.a_lawisname cdv)) (envOfC "_law_is_name" (defScope s_lawisname) s.heap.objs.size T.a_lawisname cdv) (cxG P w K mg base ["word", "sign"] "_law_is_name" (defScope s_lawisname) T.a_lawisname cdv A outer s H Ex).xe := PassesOwn.leaving
  obtain ⟨x, rfl, q⟩ := h
  refine ⟨_, (jss_one (js_ret (je_and (je_chain o_lt o_lt je_int (je_callB c_len (by rfl) T.m_len boot_len (jr_one (je_var 0))) je_int) (je_one (je_callB (c_all rfl) (by rfl) T.m_all boot_all (jr_one (je_lc rfl sc_lawisname.nd (ji_seq (je_var 0)) (blkOk_by (own := [("sign", 1)]) (by rfl)) (by decide) (fun _ _ _ _ _ => (jg_name (i := 1) sc_lawisname.nd rfl (by first | exact .inl rfl | exact .inr rfl))) (fun _ _ _ _ _ => jq_nil) (fun _ _ _ _ _ => (je_cmp (o_in hu5) (je_var 1) je_str))))))))), ?_⟩
  refine ifb_dec (fun h1 => ifb_dec (fun h2 => ?_) fun h2 => ?_) fun h1 => ?_
  · have hl : x.cps.toList.length = x.length := by simp [Str.length]
    refine lc_pure (fun c => .str ⟨#[c]⟩) (fun c => .bool (inS "abcdefghijklmnopqrstuvwxyz" c)) (σ0 := [some (.val (.str x)), none]) (by simp) rfl x.cps.toList (by omega) (fun c _ Q hq => hq) ?_
    refine need_of (boolsOf_mapF _ _) ?_
    have e : nm x = (x.cps.toList.map (inS "abcdefghijklmnopqrstuvwxyz")).all id := by
      unfold nm
      rw [decide_eq_true (show 1 ≤ x.length by omega), decide_eq_true (show x.length ≤ 12 by omega), List.all_map]
      rfl
    rw [e] at q
    exact q
  · have e : nm x = false := by
      unfold nm
      rw [decide_eq_false (show ¬ x.length ≤ 12 by omega)]
      simp
    rw [e] at q
    rw [decide_eq_false h2]
    exact q
  · have e : nm x = false := by
      unfold nm
      rw [decide_eq_false (show ¬ 1 ≤ x.length by omega)]
      simp
    rw [e] at q
    exact q
/-! ### words_of: slots 0 line, 1 words, 2 word, 3 char -/
theorem ok_wordsof (T : Facts K mg) : FnG P w K mg base 1 T.a_wordsof T.d_wordsof ["line"] sp_wordsof := by
  refine fun_okG T.F_wordsof sc_wordsof len_wordsof fun cdv A outer s H Ex vs ss Q E hr hg lv h => ?_
  have hu := hr.units
  have hu5 : (A.deeper (envOfC "words_of" (defScope s_wordsof) s.heap.objs.size T.a_wordsof cdv)).units + 65 < cLine := by have := hr.un; omega
  have np : PassesOwn (model P w) (A.deeper (envOfC "words_of" (defScope s_wordsof) s.heap.objs.size T.a_wordsof cdv)) (envOfC "words_of" (defScope s_wordsof) s.heap.objs.size T.a_wordsof cdv) (cxG P w K mg base ["line", "words", "word", "char"] "words_of" (defScope s_wordsof) T.a_wordsof cdv A outer s H Ex).xe := PassesOwn.leaving
  obtain ⟨x, rfl, hx, q⟩ := h
  refine ⟨_, (jss_cons (js_set (i := 1) (je_meth PySem.F.plainAttrs_str PySem.F.slot_str_split PySem.F.type_str_split m_split (je_var 0) (ja_cons je_str ja_nil)) (arV_none (by rw [lv]; decide)) sc_wordsof.nd rfl (by first | exact .inl rfl | exact .inr rfl))
    (jss_cons (js_forV 1 np rfl (fun _ => (jg_name (i := 2) sc_wordsof.nd rfl (by first | exact .inl rfl | exact .inr rfl))) (fun _ => (jss_one (js_if (jw_or (jt_cmp (o_eq hu) (je_var 2) je_str) (jw_or1 (jt_not (jt_val (je_callB (c_all rfl) (by rfl) T.m_all boot_all (jr_one (je_lc rfl sc_wordsof.nd (ji_seq (je_var 2)) (blkOk_by (own := [("char", 3)]) (by rfl)) (by decide) (fun _ _ _ _ _ => (jg_name (i := 3) sc_wordsof.nd rfl (by first | exact .inl rfl | exact .inr rfl))) (fun _ _ _ _ _ => jq_nil) (fun _ _ _ _ _ => (je_chain o_le o_le je_str (je_var 3) je_str))))))))).jt (jss_one (js_ret je_non)) jss_nil))))
    (jss_one (js_ret (je_mov 1))))), ?_⟩
  have hb : ((" " : Str).length == 0) = false := by decide +kernel
  have hb2 : (" " : Str).cps.all (· < 256) = true := by decide +kernel
  refine And.intro rfl (And.intro ⟨hb, hb2, room1 (by omega)⟩ ?_)
  refine forV_map PyData.str (fun (rem : List Str) (σ : SSt) => ∃ done x2, Txt.split x " " = done ++ rem ∧ (∀ w ∈ done, okL w.cps.toList = true) ∧ σ = [some (.val (.str x)), some (.lst ((Txt.split x " ").map .str)), x2, none])
    (fun rem σ h => by obtain ⟨_, _, _, _, rfl⟩ := h; rfl) (fun w rem σ N hN h => ?_) (fun σ h => ?_) (Txt.split x " ") _ ⟨[], none, rfl, (fun w m => absurd m (by simp)), rfl⟩
  · obtain ⟨done, x2, e1, hd, rfl⟩ := h
    have hw : w ∈ Txt.split x " " := by rw [e1]; simp
    have hlw : w.length ≤ x.length := (split_facts (by rw [e32]; simp) hb2 w hw).2
    have lw : w.cps.toList.length = w.length := by simp [Str.length]
    have bad : okL w.cps.toList = false → Q (.val .none) [none] := fun hf => by
      have e2 : wordsOf x = none := by
        unfold wordsOf
        rw [if_neg]
        rw [e1, List.all_append, List.all_cons, hf]
        simp
      rw [e2] at q
      exact q
    refine And.intro ⟨dep_str, dep_str⟩ (ifb_eqs (fun h0 => ?_) fun h0 => ?_)
    · refine bad ?_
      rw [h0]
      decide +kernel
    · refine lc_pure (fun c => .str ⟨#[c]⟩) (fun c => .bool (okC c)) (σ0 := [some (.val (.str x)), some (.lst ((Txt.split x " ").map .str)), some (.val (.str w)), none]) (by simp) rfl w.cps.toList (by omega) (fun c _ Q2 hq => ?_) ?_
      · show ifb (!decide ((⟨#[c]⟩ : Str).cps.toList < ("!" : Str).cps.toList)) (Q2 (.val (.bool (!decide (("~" : Str).cps.toList < (⟨#[c]⟩ : Str).cps.toList)))) _) (Q2 (.val (.bool false)) _)
        rw [le33, le126]
        unfold okC at hq
        refine ifb_dec (fun h1 => ?_) fun h1 => ?_
        · rw [decide_eq_true h1, Bool.true_and] at hq
          exact hq
        · rw [decide_eq_false h1, Bool.false_and] at hq
          exact hq
      · refine need_of (boolsOf_mapF _ _) ?_
        have e3 : (w.cps.toList.map okC).all id = w.cps.toList.all okC := by
          rw [List.all_map]
          rfl
        rw [e3]
        have ne : w.cps.toList ≠ [] := fun z => h0 (str_ext (by rw [z]; decide +kernel))
        refine ifb_of (fun hf => ?_) fun hf => ?_
        · refine bad ?_
          unfold okL
          have hf' : (!(w.cps.toList.all okC)) = true := hf
          have : w.cps.toList.all okC = false := by simpa using hf'
          rw [this]
          simp
        · have hf' : (!(w.cps.toList.all okC)) = false := hf
          refine hN _ ⟨done ++ [w], _, by rw [e1]; simp, fun z m => ?_, rfl⟩
          rcases List.mem_append.mp m with m | m
          · exact hd z m
          · have : z = w := by simpa using m
            subst this
            unfold okL
            have a1 : z.cps.toList.all okC = true := by simpa using hf'
            rw [a1]
            cases hz : z.cps.toList with
            | nil => exact absurd hz ne
            | cons => rfl
  · obtain ⟨done, x2, e1, hd, rfl⟩ := h
    rw [List.append_nil] at e1
    have e2 : wordsOf x = some (Txt.split x " ") := by
      unfold wordsOf
      rw [if_pos]
      rw [List.all_eq_true, e1]
      exact hd
    rw [e2] at q
    exact q
/-! ### _law_words: slots 0 line, 1 words, 2 word, 3 sign -/
theorem ok_lawwords (T : Facts K mg) : FnG P w K mg base 1 T.a_lawwords T.d_lawwords ["line"] sp_lawwords := by
  refine fun_okG T.F_lawwords sc_lawwords len_lawwords fun cdv A outer s H Ex vs ss Q E hr hg lv h => ?_
  have hu := hr.units
  have hu5 : (A.deeper (envOfC "_law_words" (defScope s_lawwords) s.heap.objs.size T.a_lawwords cdv)).units + 65 < cLine := by have := hr.un; omega
  have np : PassesOwn (model P w) (A.deeper (envOfC "_law_words" (defScope s_lawwords) s.heap.objs.size T.a_lawwords cdv)) (envOfC "_law_words" (defScope s_lawwords) s.heap.objs.size T.a_lawwords cdv) (cxG P w K mg base ["line", "words", "word", "sign"] "_law_words" (defScope s_lawwords) T.a_lawwords cdv A outer s H Ex).xe := PassesOwn.leaving
  obtain ⟨x, rfl, hx, q⟩ := h
  refine ⟨_, (jss_cons (js_set (i := 1) (je_lst ja_nil) (arV_none (by rw [lv]; decide)) sc_lawwords.nd rfl (by first | exact .inl rfl | exact .inr rfl))
    (jss_cons (js_setv (i := 2) je_str sc_lawwords.nd rfl (by first | exact .inl rfl | exact .inr rfl))
    (jss_cons (js_for np rfl (ji_seq (je_op2 o_add (je_var 0) je_str)) (jg_name (i := 3) sc_lawwords.nd rfl (by first | exact .inl rfl | exact .inr rfl)) (jss_one (js_if (jt_cmp (o_eq hu) (je_var 3) je_str) (jss_cons (js_if (jt_cmp (o_eq hu) (je_var 2) je_str) (jss_one (js_ret je_non)) jss_nil)
    (jss_cons (js_expr (je_mut 1 PySem.F.slot_list_append PySem.F.type_list_append u_append (ja_cons (je_var 2) ja_nil)))
    (jss_one (js_setv (i := 2) je_str sc_lawwords.nd rfl (by first | exact .inl rfl | exact .inr rfl))))) (jss_one (js_if (jt_chain o_le o_le je_str (je_var 3) je_str) (jss_one (js_setv (i := 2) (je_op2 o_add (je_var 2) (je_var 3)) sc_lawwords.nd rfl (by first | exact .inl rfl | exact .inr rfl))) (jss_one (js_ret je_non)))))))
    (jss_one (js_ret (je_mov 1)))))), ?_⟩
  have hlx : x.cps.toList.length = x.length := by simp [Str.length]
  refine And.intro (Nat.zero_le _) ?_
  refine And.intro (room1 (by rw [show (" " : Str).length = 1 by decide +kernel]; omega)) ?_
  have ec : (x ++ (" " : Str)).cps.toList = x.cps.toList ++ [32] := by
    rw [show (x ++ (" " : Str)).cps = x.cps ++ (" " : Str).cps from rfl, Array.toList_append, e32]
  have ech : chrD (x ++ (" " : Str)) = (x.cps.toList ++ [32]).map (fun c => PyData.str ⟨#[c]⟩) := by
    unfold chrD
    rw [ec]
  show forT _ _ (chrD (x ++ (" " : Str))) _ _ _
  rw [ech]
  refine for_map (fun c : Nat => PyData.str ⟨#[c]⟩) (fun (rem : List Nat) (σ : SSt) => ∃ ws u L x3, σ = [some (.val (.str x)), some (.lst L), some (.val (.str (mk u))), x3] ∧ L = ws.map .str ∧ scanW rem ws u = wordsOf x ∧ ws.length + rem.length ≤ 100001 ∧ u.length + rem.length ≤ 100001)
    (fun c rem σ N hN h => ?_) (fun σ h => ?_) (x.cps.toList ++ [32]) _ ⟨[], [], [], none, rfl, rfl, words_scan x, by rw [List.length_append, hlx]; show 0 + (x.length + 1) ≤ _; omega, by rw [List.length_append, hlx]; show 0 + (x.length + 1) ≤ _; omega⟩
  · obtain ⟨ws, u, L, x3, rfl, rfl, e1, hl, hl2⟩ := h
    rw [List.length_cons] at hl hl2
    have e1' : (if c = 32 then (if u = [] then none else scanW rem (ws ++ [mk u]) []) else if okC c = true then scanW rem ws (u ++ [c]) else none) = wordsOf x := e1
    refine And.intro ⟨dep_str, dep_str⟩ (ifb_eqs (fun h0 => ?_) fun h0 => ?_)
    · rw [if_pos ((blank1 c).mp h0)] at e1'
      refine And.intro ⟨dep_str, dep_str⟩ (ifb_eqs (fun h1 => ?_) fun h1 => ?_)
      · rw [if_pos ((empty1 u).mp h1)] at e1'
        rw [← e1'] at q
        exact q
      · rw [if_neg fun z => h1 ((empty1 u).mpr z)] at e1'
        refine And.intro (room2 (by rw [List.length_map]; omega)) (hN _ ⟨ws ++ [mk u], [], _, _, rfl, by simp, e1', by simp; omega, by simp; omega⟩)
    · rw [if_neg fun z => h0 ((blank1 c).mpr z)] at e1'
      show ifb (!decide ((⟨#[c]⟩ : Str).cps.toList < ("!" : Str).cps.toList)) _ _
      rw [le33]
      refine ifb_dec (fun h1 => ?_) fun h1 => ?_
      · show ifb (!decide (("~" : Str).cps.toList < (⟨#[c]⟩ : Str).cps.toList)) _ _
        rw [le126]
        refine ifb_dec (fun h2 => ?_) fun h2 => ?_
        · have hk : okC c = true := by unfold okC; rw [decide_eq_true h1, decide_eq_true h2]; rfl
          rw [if_pos hk] at e1'
          have ea : (mk u ++ (⟨#[c]⟩ : Str)) = mk (u ++ [c]) := str_ext (by
            rw [show (mk u ++ (⟨#[c]⟩ : Str)).cps = (mk u).cps ++ #[c] from rfl]
            simp [mk])
          refine And.intro (room1 (by show u.toArray.size + 1 ≤ _; simp; omega)) (hN _ ⟨ws, u ++ [c], _, _, by rw [← ea]; rfl, rfl, e1', by omega, by simp; omega⟩)
        · have hk : okC c = false := by unfold okC; rw [decide_eq_false h2]; simp
          rw [if_neg (by rw [hk]; decide)] at e1'
          rw [← e1'] at q
          exact q
      · have hk : okC c = false := by unfold okC; rw [decide_eq_false h1]; simp
        rw [if_neg (by rw [hk]; decide)] at e1'
        rw [← e1'] at q
        exact q
  · obtain ⟨ws, u, L, x3, rfl, rfl, e1, hl, hl2⟩ := h
    have e2 : wordsOf x = some ws := e1.symm
    rw [e2] at q
    exact q
/-! ### _law_line: slots 0 draws, 1 signs, 2 length, 3 k -/
theorem ok_lawline (T : Facts K mg) : FnG P w K mg base 2 T.a_lawline T.d_lawline ["draws"] sp_lawline := by
  have G_lawnext := ok_lawnext (P := P) (w := w) (base := base) T
  refine fun_okG T.F_lawline sc_lawline len_lawline fun cdv A outer s H Ex vs ss Q E hr hg lv h => ?_
  have hu := hr.units
  have hu5 : (A.deeper (envOfC "_law_line" (defScope s_lawline) s.heap.objs.size T.a_lawline cdv)).units + 65 < cLine := by have := hr.un; omega
  have np : PassesOwn (model P w) (A.deeper (envOfC "_law_line" (defScope s_lawline) s.heap.objs.size T.a_lawline cdv)) (envOfC "_law_line" (defScope s_lawline) s.heap.objs.size T.a_lawline cdv) (cxG P w K mg base ["draws", "signs", "length", "k"] "_law_line" (defScope s_lawline) T.a_lawline cdv A outer s H Ex).xe := PassesOwn.leaving
  obtain ⟨ns, rfl, q⟩ := h
  refine ⟨_, (jss_cons (js_setv (i := 1) je_str sc_lawline.nd rfl (by first | exact .inl rfl | exact .inr rfl))
    (jss_cons (js_setv (i := 2) (je_op2 o_mod (je_callT c_int (by rfl) T.m_int boot_int (jr_one (je_call G_lawnext (hr.mono (by decide)) hg (by rfl) T.g_lawnext T.F_lawnext.kp T.b_lawnext (jc_lent 0 jc_nil)))) je_int) sc_lawline.nd rfl (by first | exact .inl rfl | exact .inr rfl))
    (jss_one (js_ret (je_meth PySem.F.plainAttrs_str PySem.F.slot_str_join PySem.F.type_str_join m_join je_str (ja_cons (je_lc rfl sc_lawline.nd (ji_range1 (by rfl) T.m_range (je_var 2)) (blkOk_by (own := [("k", 3)]) (by rfl)) (by decide) (fun _ _ _ _ _ => (jg_name (i := 3) sc_lawline.nd rfl (by first | exact .inl rfl | exact .inr rfl))) (fun _ _ _ _ _ => jq_nil) (fun _ _ _ _ _ => (je_ix o_ix (je_var 1) (je_op2 o_mod (je_callT c_int (by rfl) T.m_int boot_int (jr_one (je_call G_lawnext (hr.mono (by decide)) hg (by rfl) T.g_lawnext T.F_lawnext.kp T.b_lawnext (jc_lent 0 jc_nil)))) (je_callB c_len (by rfl) T.m_len boot_len (jr_one (je_var 1))))))) ja_nil)))))), ?_⟩
  refine And.intro rfl ⟨ns, rfl, fun n ms => ?_⟩
  refine And.intro (by decide) ?_
  refine And.intro rfl ?_
  have hn1 : 0 ≤ n % 24 := Int.emod_nonneg n (by decide)
  have hn2 : n % 24 < 24 := Int.emod_lt_of_pos n (by decide)
  refine And.intro ⟨by omega, by omega⟩ ?_
  refine lc_map (fun i : Nat => PyData.int (0 + (i : Int))) (fun (rem : List Nat) (acc : List PyData) (σ : SSt) => ∃ (ys : List Str) (ms : List Int), acc = ys.map .str ∧ (∀ y ∈ ys, y.length = 1) ∧ ys.length + rem.length ≤ 23 ∧ σ = [some (.lst (I2 ms)), some (.val (.str "abcxyz  0123456789:|>.~!A \n\t")), some (.val (.int (n % 24))), none])
    (fun i rem acc σ N hN h => ?_) (fun acc σ h => ?_) (List.range (n % 24 - 0).toNat) [] _ ⟨[], ms, rfl, (fun y m => absurd m (by simp)), by simp; omega, rfl⟩
  · obtain ⟨ys, ms, rfl, h1, hl, rfl⟩ := h
    rw [List.length_cons] at hl
    refine And.intro rfl ⟨ms, rfl, fun n2 ms2 => ?_⟩
    have pos : 0 < ("abcxyz  0123456789:|>.~!A \n\t" : Str).cps.toList.length := by decide +kernel
    obtain ⟨c, ec, _⟩ := atI_mod ("abcxyz  0123456789:|>.~!A \n\t" : Str).cps.toList pos n2
    have pos2 : (0 : Int) < (("abcxyz  0123456789:|>.~!A \n\t" : Str).length : Nat) := by decide +kernel
    refine And.intro pos2 (need_of ec ?_)
    refine And.intro (room2 (by rw [List.length_map]; omega)) (hN _ _ ⟨ys ++ [⟨#[c]⟩], ms2, by simp, fun y m => ?_, by simp; omega, rfl⟩)
    rcases List.mem_append.mp m with m | m
    · exact h1 y m
    · have e : y = ⟨#[c]⟩ := by simpa using m
      rw [e]
      rfl
  · obtain ⟨ys, ms2, rfl, h1, hl, rfl⟩ := h
    have hsum : ∀ zs : List Str, (∀ z ∈ zs, z.length = 1) → (zs.map (·.length)).sum = zs.length := by
      intro zs hz
      induction zs with
      | nil => rfl
      | cons z r ih =>
        have a1 := hz z (by simp)
        have a2 := ih fun t m => hz t (List.mem_cons_of_mem _ m)
        simp only [List.map_cons, List.sum_cons, List.length_cons, a1, a2]
        omega
    have e0 : ("" : Str).length = 0 := by decide +kernel
    have es := hsum ys h1
    refine need_of (strsOf_map ys) (And.intro ?_ (q _ ms2 ?_))
    · rw [es, e0]
      simp at hl
      omega
    · have := join_len "" ys
      rw [join_eq]
      rw [es, e0] at this
      simp at hl
      omega
/-! ### _law_number: slots 0 cell -/
theorem ok_lawnumber (T : Facts K mg) : FnG P w K mg base 1 T.a_lawnumber T.d_lawnumber ["cell"] sp_lawnumber := by
  refine fun_okG T.F_lawnumber sc_lawnumber len_lawnumber fun cdv A outer s H Ex vs ss Q E hr hg lv h => ?_
  have hu := hr.units
  have hu5 : (A.deeper (envOfC "_law_number" (defScope s_lawnumber) s.heap.objs.size T.a_lawnumber cdv)).units + 65 < cLine := by have := hr.un; omega
  have np : PassesOwn (model P w) (A.deeper (envOfC "_law_number" (defScope s_lawnumber) s.heap.objs.size T.a_lawnumber cdv)) (envOfC "_law_number" (defScope s_lawnumber) s.heap.objs.size T.a_lawnumber cdv) (cxG P w K mg base ["cell"] "_law_number" (defScope s_lawnumber) T.a_lawnumber cdv A outer s H Ex).xe := PassesOwn.leaving
  obtain ⟨i, rfl, q⟩ := h
  refine ⟨_, (jss_cons (js_if (jt_cmp o_lt (je_var 0) je_int) (jss_one (js_ret (je_op2 o_sub je_int (je_var 0)))) jss_nil)
    (jss_one (js_ret (je_var 0)))), ?_⟩
  exact ifb_of (fun _ => q _) fun _ => q _
/-! ### _law_draws: slots 0 script, 1 draws, 2 cell, 3 rest, 4 k, 5 once, 6 twice -/
theorem ok_lawdraws (T : Facts K mg) : FnG P w K mg base 2 T.a_lawdraws T.d_lawdraws ["script"] sp_lawdraws := by
  have G_lawnumber := ok_lawnumber (P := P) (w := w) (base := base) T
  refine fun_okG T.F_lawdraws sc_lawdraws len_lawdraws fun cdv A outer s H Ex vs ss Q E hr hg lv h => ?_
  have hu := hr.units
  have hu5 : (A.deeper (envOfC "_law_draws" (defScope s_lawdraws) s.heap.objs.size T.a_lawdraws cdv)).units + 65 < cLine := by have := hr.un; omega
  have np : PassesOwn (model P w) (A.deeper (envOfC "_law_draws" (defScope s_lawdraws) s.heap.objs.size T.a_lawdraws cdv)) (envOfC "_law_draws" (defScope s_lawdraws) s.heap.objs.size T.a_lawdraws cdv) (cxG P w K mg base ["script", "draws", "cell", "rest", "k", "once", "twice"] "_law_draws" (defScope s_lawdraws) T.a_lawdraws cdv A outer s H Ex).xe := PassesOwn.leaving
  obtain ⟨ns, rfl, hl, q⟩ := h
  refine ⟨_, (jss_cons (js_set (i := 1) (je_lst ja_nil) (arV_none (by rw [lv]; decide)) sc_lawdraws.nd rfl (by first | exact .inl rfl | exact .inr rfl))
    (jss_cons (js_for np rfl (ji_seq (je_view 0)) (jg_name (i := 2) sc_lawdraws.nd rfl (by first | exact .inl rfl | exact .inr rfl)) (jss_cons (js_setv (i := 3) (je_call G_lawnumber (hr.mono (by decide)) hg (by rfl) T.g_lawnumber T.F_lawnumber.kp T.b_lawnumber (jc_val (je_var 2) jc_nil)) sc_lawdraws.nd rfl (by first | exact .inl rfl | exact .inr rfl))
    (jss_one (js_if (jt_cmp o_ge (je_var 3) je_int) (jss_one (js_for np rfl (ji_range1 (by rfl) T.m_range je_int) (jg_name (i := 4) sc_lawdraws.nd rfl (by first | exact .inl rfl | exact .inr rfl)) (jss_cons (js_if (jt_cmp (o_eq hu) (je_var 3) je_int) (jss_one js_break) jss_nil)
    (jss_cons (js_expr (je_mut 1 PySem.F.slot_list_append PySem.F.type_list_append u_append (ja_cons (je_op2 o_mod (je_callT c_int (by rfl) T.m_int boot_int (jr_one (je_var 3))) je_int) ja_nil)))
    (jss_one (js_setv (i := 3) (je_op2 o_fdiv (je_var 3) je_int) sc_lawdraws.nd rfl (by first | exact .inl rfl | exact .inr rfl))))))) (jss_cons (js_setv (i := 5) (je_op2 o_mod (je_callT c_int (by rfl) T.m_int boot_int (jr_one (je_op2 o_add (je_op2 o_mul (je_var 3) je_int) je_int))) je_int) sc_lawdraws.nd rfl (by first | exact .inl rfl | exact .inr rfl))
    (jss_cons (js_setv (i := 6) (je_op2 o_mod (je_callT c_int (by rfl) T.m_int boot_int (jr_one (je_op2 o_add (je_op2 o_mul (je_var 5) je_int) (je_var 3)))) je_int) sc_lawdraws.nd rfl (by first | exact .inl rfl | exact .inr rfl))
    (jss_one (js_expr (je_mut 1 PySem.F.slot_list_extend PySem.F.type_list_extend u_extend (ja_cons (je_lst (ja_cons (je_op2 o_mod (je_callT c_int (by rfl) T.m_int boot_int (jr_one (je_var 3))) je_int) (ja_cons (je_op2 o_mod (je_callT c_int (by rfl) T.m_int boot_int (jr_one (je_var 5))) je_int) (ja_cons (je_op2 o_mod (je_callT c_int (by rfl) T.m_int boot_int (jr_one (je_var 6))) je_int) ja_nil)))) ja_nil))))))))))
    (jss_cons (js_expr (je_mut0 1 PySem.F.slot_list_reverse PySem.F.type_list_reverse u_reverse))
    (jss_one (js_ret (je_mov 1)))))), ?_⟩
  refine And.intro (Nat.zero_le _) ?_
  refine for_map PyData.int (fun (cs : List Int) (σ : SSt) => ∃ L acc x2 x3 x4 x5 x6, σ = [some (.scr ns), some (.lst L), x2, x3, x4, x5, x6] ∧ L = I2 acc ∧ acc.length + 60 * cs.length ≤ 3780) (fun c cs σ N hN h => ?_) (fun σ h => ?_) ns _ ⟨[], [], none, none, none, none, none, rfl, rfl, by simp; omega⟩
  · obtain ⟨L, acc, x2, x3, x4, x5, x6, rfl, rfl, hz⟩ := h
    rw [List.length_cons] at hz
    refine And.intro rfl ⟨c, rfl, fun j => ?_⟩
    refine ifb_of (fun _ => ?_) fun _ => ?_
    · refine And.intro (by decide) ?_
      refine for_map (fun (i : Nat) => PyData.int (0 + (i : Int))) (fun (ks : List Nat) (σ : SSt) => ∃ L acc2 r x4 x5 x6, σ = [some (.scr ns), some (.lst L), some (.val (.int c)), some (.val (.int r)), x4, x5, x6] ∧ L = I2 acc2 ∧ acc2.length + ks.length ≤ acc.length + 60)
        (fun i ks σ N2 hN2 h => ?_) (fun σ h => ?_) (List.range 60) _ ⟨_, acc, j, _, _, _, rfl, rfl, by simp⟩
      · obtain ⟨L, acc2, r, x4, x5, x6, rfl, rfl, hz2⟩ := h
        rw [List.length_cons] at hz2
        refine And.intro ⟨dep_int, dep_int⟩ ?_
        refine ifb_eqi (fun r0 => ?_) fun r0 => ?_
        · exact hN _ ⟨_, acc2, _, _, _, _, _, rfl, rfl, by omega⟩
        · refine And.intro (by decide) (And.intro ?_ (And.intro ⟨by decide, by decide⟩ (hN2 _ ⟨_, acc2 ++ [r % 1000], r / 1000, _, _, _, rfl, ?_, by simp; omega⟩)))
          · show (I2 acc2).length < _
            unfold I2
            rw [List.length_map]
            exact room2 (by omega)
          · unfold I2
            rw [List.map_append]
            rfl
      · obtain ⟨L, acc2, r, x4, x5, x6, rfl, rfl, hz2⟩ := h
        exact hN _ ⟨_, acc2, _, _, _, _, _, rfl, rfl, by simp at hz2; omega⟩
    · refine And.intro (.inr (by decide)) (And.intro (by decide) (And.intro (.inr (by decide)) (And.intro (by decide) (And.intro (by decide) (And.intro (by decide) (And.intro (by decide) (And.intro (room1 (by simp)) (And.intro ?_ ?_))))))))
      · show (I2 acc).length + 3 ≤ _
        unfold I2
        rw [List.length_map]
        exact room1 (by omega)
      · refine hN _ ⟨_, acc ++ [j % 1000, (j * 48271 + 11) % 2147483647 % 1000, ((j * 48271 + 11) % 2147483647 * 69621 + j) % 2147483629 % 1000], _, _, _, _, _, rfl, ?_, by simp; omega⟩
        unfold I2
        rw [List.map_append]
        rfl
  · obtain ⟨L, acc, x2, x3, x4, x5, x6, rfl, rfl, hz⟩ := h
    have q2 := q acc.reverse
    have e : I2 acc.reverse = (I2 acc).reverse := List.map_reverse
    rw [e] at q2
    exact q2
theorem show_num (x : Str) : ReprS (numIn x) := by
  unfold numIn
  split
  · rename_i h
    obtain ⟨i, hi, e⟩ := num_of h
    rw [← e, TL.numL_val]
    exact show_int (Nat.lt_trans (show _ < 100 by omega) (by decide))
  · exact show_none
/-- [x] * k -/
theorem flat_rep (x : Str) : ∀ n : Nat, (List.replicate n [PyData.str x]).flatten = (List.replicate n x).map .str
  | 0 => rfl
  | n + 1 => by
    rw [List.replicate_succ, List.flatten_cons, flat_rep x n]
    rfl
theorem sum_rep (x : Str) : ∀ n : Nat, ((List.replicate n x).map (·.length)).sum = n * x.length
  | 0 => by simp
  | n + 1 => by
    rw [List.replicate_succ, List.map_cons, List.sum_cons, sum_rep x n, Nat.succ_mul]
    omega
theorem res_show {x : Str} (h : x.length ≤ 100000) : ∃ d, (resW (wordsOf x)).toD = some d ∧ ReprS d := by
  have hb2 : (" " : Str).cps.all (· < 256) = true := by decide +kernel
  unfold wordsOf
  split
  · refine ⟨.list ((Txt.split x " ").map .str), rfl, show_strs ?_⟩
    have := split_total (x := x) (y := " ") (by rw [e32]; simp) hb2
    omega
  · exact ⟨.none, rfl, show_none⟩
/-! ### law: slots 0 script, 1 draws, 2 line, 3 words, 4 word, 5 plain, 6 many, 7 near, 8 text, 9 told, 10 letters, 11 k, 12 figure -/
theorem ok_law (T : Facts K mg) : FnG P w K mg base 3 T.a_law T.d_law ["script"] sp_law := by
  have G_lawspoilt := ok_lawspoilt (P := P) (w := w) (base := base) T
  have G_numberin := ok_numberin (P := P) (w := w) (base := base) T
  have G_lawnumberin := ok_lawnumberin (P := P) (w := w) (base := base) T
  have G_lawnext := ok_lawnext (P := P) (w := w) (base := base) T
  have G_isname := ok_isname (P := P) (w := w) (base := base) T
  have G_lawisname := ok_lawisname (P := P) (w := w) (base := base) T
  have G_wordsof := ok_wordsof (P := P) (w := w) (base := base) T
  have G_lawwords := ok_lawwords (P := P) (w := w) (base := base) T
  have G_lawline := ok_lawline (P := P) (w := w) (base := base) T
  have G_lawdraws := ok_lawdraws (P := P) (w := w) (base := base) T
  refine fun_okG T.F_law sc_law len_law fun cdv A outer s H Ex vs ss Q E hr hg lv h => ?_
  have hu := hr.units
  have hu5 : (A.deeper (envOfC "law" (defScope s_law) s.heap.objs.size T.a_law cdv)).units + 65 < cLine := by have := hr.un; omega
  have np : PassesOwn (model P w) (A.deeper (envOfC "law" (defScope s_law) s.heap.objs.size T.a_law cdv)) (envOfC "law" (defScope s_law) s.heap.objs.size T.a_law cdv) (cxG P w K mg base ["script", "draws", "line", "words", "word", "plain", "many", "near", "text", "told", "letters", "k", "figure"] "law" (defScope s_law) T.a_law cdv A outer s H Ex).xe := PassesOwn.leaving
  obtain ⟨ns, rfl, hl, q⟩ := h
  refine ⟨_, (jss_cons (js_set (i := 1) (je_call G_lawdraws (hr.mono (by decide)) hg (by rfl) T.g_lawdraws T.F_lawdraws.kp T.b_lawdraws (jc_lent 0 jc_nil)) (arV_none (by rw [lv]; decide)) sc_law.nd rfl (by first | exact .inl rfl | exact .inr rfl))
    (jss_cons (js_setv (i := 2) (je_call G_lawline (hr.mono (by decide)) hg (by rfl) T.g_lawline T.F_lawline.kp T.b_lawline (jc_lent 1 jc_nil)) sc_law.nd rfl (by first | exact .inl rfl | exact .inr rfl))
    (jss_cons (js_setLc (i := 3) rfl (arV_none (by rw [lv]; decide)) sc_law.nd rfl rfl (sw_true rfl rfl rfl (by decide +kernel)) (ji_seq (je_meth PySem.F.plainAttrs_str PySem.F.slot_str_split PySem.F.type_str_split m_split (je_var 2) (ja_cons je_str ja_nil))) (blkOk_by (own := [("word", 4)]) (by rfl)) (by decide) (fun _ _ _ _ _ => (jg_name (i := 4) sc_law.nd rfl (by first | exact .inl rfl | exact .inr rfl))) (fun _ _ _ _ _ => (jq_one (jt_cmp (o_ne hu) (je_var 4) je_str))) (fun _ _ _ _ _ => (je_var 4)))
    (jss_cons (js_setv (i := 5) (je_meth PySem.F.plainAttrs_str PySem.F.slot_str_join PySem.F.type_str_join m_join je_str (ja_cons (je_frz 3) ja_nil)) sc_law.nd rfl (by first | exact .inl rfl | exact .inr rfl))
    (jss_cons (js_setv (i := 6) (je_meth PySem.F.plainAttrs_str PySem.F.slot_str_join PySem.F.type_str_join m_join je_str (ja_cons (je_op2 o_mul (je_lst (ja_cons (je_var 5) ja_nil)) (je_op2 o_add je_int (je_op2 o_mod (je_callT c_int (by rfl) T.m_int boot_int (jr_one (je_call G_lawnext (hr.mono (by decide)) hg (by rfl) T.g_lawnext T.F_lawnext.kp T.b_lawnext (jc_lent 1 jc_nil)))) je_int))) ja_nil)) sc_law.nd rfl (by first | exact .inl rfl | exact .inr rfl))
    (jss_cons (js_set (i := 7) (je_lst (ja_addK (je_var 5) (jat_cons (je_op2 o_add je_str (je_var 5)) (jat_spec (je_repl (je_var 5) 32 rfl (by decide) (by decide +kernel) (by decide +kernel)) (ja_cons je_str (ja_cons je_str (ja_cons je_str (ja_cons (je_op2 o_add (je_var 5) je_str) (ja_cons (je_op2 o_add (je_var 5) je_str) ja_nil))))).t)))) (arV_none (by rw [lv]; decide)) sc_law.nd rfl (by first | exact .inl rfl | exact .inr rfl))
    (jss_cons (js_for np rfl (ji_seq (je_op2 o_add (je_lst (ja_cons (je_var 2) (ja_cons (je_var 5) (ja_cons (je_var 6) (ja_cons (je_op2 o_add (je_var 6) je_str) (ja_cons (je_call G_lawspoilt (hr.mono (by decide)) hg (by rfl) T.g_lawspoilt T.F_lawspoilt.kp T.b_lawspoilt (jc_lent 1 (jc_val (je_var 5) jc_nil))) ja_nil)))))) (je_view 7))) (jg_name (i := 8) sc_law.nd rfl (by first | exact .inl rfl | exact .inr rfl)) (jss_cons (js_set (i := 9) (je_call G_wordsof (hr.mono (by decide)) hg (by rfl) T.g_wordsof T.F_wordsof.kp T.b_wordsof (jc_val (je_var 8) jc_nil)) (arV_none (by rw [lv]; decide)) sc_law.nd rfl (by first | exact .inl rfl | exact .inr rfl))
    (jss_cons (js_if (jt_cmp (o_ne hu) (je_callB (c_repr hg hu) (by rfl) T.m_repr boot_repr (jr_one (je_view 9))) (je_callB (c_repr hg hu) (by rfl) T.m_repr boot_repr (jr_one (je_call G_lawwords (hr.mono (by decide)) hg (by rfl) T.g_lawwords T.F_lawwords.kp T.b_lawwords (jc_val (je_var 8) jc_nil))))) (jss_one (js_ret je_bl)) jss_nil)
    (jss_one (js_if (jt_cmp o_isNot (je_view 9) je_non) (jss_cons (js_expr (je_mut 9 PySem.F.slot_list_append PySem.F.type_list_append u_append (ja_cons je_str ja_nil)))
    (jss_one (js_if (jt_cmp (o_ne hu) (je_callB (c_repr hg hu) (by rfl) T.m_repr boot_repr (jr_one (je_call G_wordsof (hr.mono (by decide)) hg (by rfl) T.g_wordsof T.F_wordsof.kp T.b_wordsof (jc_val (je_var 8) jc_nil)))) (je_callB (c_repr hg hu) (by rfl) T.m_repr boot_repr (jr_one (je_call G_lawwords (hr.mono (by decide)) hg (by rfl) T.g_lawwords T.F_lawwords.kp T.b_lawwords (jc_val (je_var 8) jc_nil))))) (jss_one (js_ret je_bl)) jss_nil))) jss_nil)))))
    (jss_cons (js_setv (i := 10) (je_meth PySem.F.plainAttrs_str PySem.F.slot_str_join PySem.F.type_str_join m_join je_str (ja_cons (je_lc rfl sc_law.nd (ji_range1 (by rfl) T.m_range (je_op2 o_mod (je_callT c_int (by rfl) T.m_int boot_int (jr_one (je_call G_lawnext (hr.mono (by decide)) hg (by rfl) T.g_lawnext T.F_lawnext.kp T.b_lawnext (jc_lent 1 jc_nil)))) je_int)) (blkOk_by (own := [("k", 11)]) (by rfl)) (by decide) (fun _ _ _ _ _ => (jg_name (i := 11) sc_law.nd rfl (by first | exact .inl rfl | exact .inr rfl))) (fun _ _ _ _ _ => jq_nil) (fun _ _ _ _ _ => (je_ix o_ix je_str (je_op2 o_mod (je_callT c_int (by rfl) T.m_int boot_int (jr_one (je_call G_lawnext (hr.mono (by decide)) hg (by rfl) T.g_lawnext T.F_lawnext.kp T.b_lawnext (jc_lent 1 jc_nil)))) je_int)))) ja_nil)) sc_law.nd rfl (by first | exact .inl rfl | exact .inr rfl))
    (jss_cons (js_for np rfl (ji_seq (je_op2 o_add (je_frz 3) (je_lst (ja_cons (je_var 10) (ja_cons (je_op2 o_add (je_var 10) je_str) (ja_cons (je_op2 o_mulS je_str je_int) (ja_cons (je_op2 o_mulS je_str je_int) (ja_cons je_str (ja_cons je_str (ja_cons je_str (ja_cons (je_call G_lawspoilt (hr.mono (by decide)) hg (by rfl) T.g_lawspoilt T.F_lawspoilt.kp T.b_lawspoilt (jc_lent 1 (jc_val (je_var 10) jc_nil))) ja_nil))))))))))) (jg_name (i := 4) sc_law.nd rfl (by first | exact .inl rfl | exact .inr rfl)) (jss_one (js_if (jt_cmp (o_ne hu) (je_callB (c_repr hg hu) (by rfl) T.m_repr boot_repr (jr_one (je_call G_isname (hr.mono (by decide)) hg (by rfl) T.g_isname T.F_isname.kp T.b_isname (jc_val (je_var 4) jc_nil)))) (je_callB (c_repr hg hu) (by rfl) T.m_repr boot_repr (jr_one (je_call G_lawisname (hr.mono (by decide)) hg (by rfl) T.g_lawisname T.F_lawisname.kp T.b_lawisname (jc_val (je_var 4) jc_nil))))) (jss_one (js_ret je_bl)) jss_nil)))
    (jss_cons (js_setv (i := 12) (je_callT c_str (by rfl) T.m_str boot_str (jr_one (je_op2 o_mod (je_callT c_int (by rfl) T.m_int boot_int (jr_one (je_call G_lawnext (hr.mono (by decide)) hg (by rfl) T.g_lawnext T.F_lawnext.kp T.b_lawnext (jc_lent 1 jc_nil)))) je_int))) sc_law.nd rfl (by first | exact .inl rfl | exact .inr rfl))
    (jss_cons (js_for np rfl (ji_seq (je_op2 o_add (je_frz 3) (je_lst (ja_cons (je_var 12) (ja_cons (je_op2 o_add je_str (je_var 12)) (ja_cons (je_op2 o_add je_str (je_var 12)) (ja_cons je_str (ja_cons je_str (ja_cons je_str (ja_cons je_str (ja_cons je_str (ja_cons je_str (ja_cons je_str (ja_cons (je_call G_lawspoilt (hr.mono (by decide)) hg (by rfl) T.g_lawspoilt T.F_lawspoilt.kp T.b_lawspoilt (jc_lent 1 (jc_val (je_var 12) jc_nil))) ja_nil)))))))))))))) (jg_name (i := 4) sc_law.nd rfl (by first | exact .inl rfl | exact .inr rfl)) (jss_one (js_if (jt_cmp (o_ne hu) (je_callB (c_repr hg hu) (by rfl) T.m_repr boot_repr (jr_one (je_call G_numberin (hr.mono (by decide)) hg (by rfl) T.g_numberin T.F_numberin.kp T.b_numberin (jc_val (je_var 4) jc_nil)))) (je_callB (c_repr hg hu) (by rfl) T.m_repr boot_repr (jr_one (je_call G_lawnumberin (hr.mono (by decide)) hg (by rfl) T.g_lawnumberin T.F_lawnumberin.kp T.b_lawnumberin (jc_val (je_var 4) jc_nil))))) (jss_one (js_ret je_bl)) jss_nil)))
    (jss_one (js_ret je_bl))))))))))))), ?_⟩
  have hb : ((" " : Str).length == 0) = false := by decide +kernel
  have hb2 : (" " : Str).cps.all (· < 256) = true := by decide +kernel
  have lap : ∀ (a b : Str), (a ++ b).length = a.length + b.length := fun a b => str_append_length a b
  refine And.intro rfl ⟨ns, rfl, hl, fun ms => ?_⟩
  refine And.intro rfl ⟨ms, rfl, fun line ms1 hline => ?_⟩
  refine And.intro rfl (And.intro ⟨hb, hb2, room1 (by omega)⟩ ?_)
  have sp := split_total (x := line) (y := " ") (by rw [e32]; simp) hb2
  refine lc_map PyData.str (fun (rem : List Str) (acc : List PyData) (σ : SSt) => ∃ ys : List Str, acc = ys.map .str ∧ (ys.map (·.length)).sum + (rem.map (·.length)).sum ≤ 24 ∧ ys.length + rem.length ≤ 25 ∧ σ = [some (.scr ns), some (.lst (I2 ms1)), some (.val (.str line)), none, none, none, none, none, none, none, none, none, none])
    (fun w rem acc σ N hN h => ?_) (fun acc σ h => ?_) (Txt.split line " ") [] _ ⟨[], rfl, by simp; omega, by simp; omega, rfl⟩
  · obtain ⟨ys, rfl, h1, h2, rfl⟩ := h
    simp only [List.map_cons, List.sum_cons, List.length_cons] at h1 h2
    refine And.intro ⟨dep_str, dep_str⟩ (ifb_ne2 (fun h0 => ?_) fun h0 => ?_)
    · exact And.intro (room2 (by rw [List.length_map]; omega)) (hN _ _ ⟨ys ++ [w], by simp, by simp; omega, by simp; omega, rfl⟩)
    · exact hN _ _ ⟨ys, rfl, by omega, by omega, rfl⟩
  obtain ⟨words, rfl, hw1, hw2, rfl⟩ := h
  simp only [List.map_nil, List.sum_nil, List.length_nil, Nat.add_zero] at hw1 hw2
  have l32 : (" " : Str).length = 1 := by decide +kernel
  -- plain
  refine And.intro rfl (need_of (strsOf_map words) (And.intro (by rw [l32]; omega) ?_))
  have hp : (Txt.join " " words).length ≤ 49 := by
    have := join_len " " words
    rw [join_eq]
    rw [l32] at this
    omega
  generalize Txt.join " " words = plain at hp
  -- many
  refine And.intro rfl (And.intro (room1 (by simp)) ?_)
  refine And.intro rfl ⟨ms1, rfl, fun n1 ms2 => ?_⟩
  have hk1 : 0 ≤ n1 % 60 := Int.emod_nonneg n1 (by decide)
  have hk2 : n1 % 60 < 60 := Int.emod_lt_of_pos n1 (by decide)
  refine And.intro (by decide) (And.intro ⟨by omega, by omega, room1 (by show 1 * _ ≤ _; omega)⟩ ?_)
  have ef : strsOf (List.replicate (2 + n1 % 60).toNat [PyData.str plain]).flatten = some (List.replicate (2 + n1 % 60).toNat plain) := by
    rw [flat_rep]
    exact strsOf_map _
  have hk3 : (2 + n1 % 60).toNat ≤ 62 := by omega
  have hm1 : (2 + n1 % 60).toNat * plain.length ≤ 62 * 49 := Nat.mul_le_mul hk3 hp
  have hm : (Txt.join " " (List.replicate (2 + n1 % 60).toNat plain)).length ≤ 4000 := by
    have := join_len " " (List.replicate (2 + n1 % 60).toNat plain)
    rw [join_eq]
    rw [sum_rep, List.length_replicate, l32] at this
    omega
  refine need_of ef (And.intro (by rw [sum_rep, List.length_replicate, l32]; omega) ?_)
  generalize Txt.join " " (List.replicate (2 + n1 % 60).toNat plain) = many at hm
  -- near
  have lz : ("  " : Str).length = 2 := by decide +kernel
  have lx : ("  x" : Str).length = 3 := by decide +kernel
  have ln : ("\n" : Str).length = 1 := by decide +kernel
  have lt : ("\t" : Str).length = 1 := by decide +kernel
  have hr : plain.length + (plain.length + 1) * ("  " : Str).length ≤ 200 := by rw [lz]; omega
  have hr2 := TK.replace_len plain " " "  "
  refine And.intro (room1 (by rw [l32]; omega)) (And.intro (room1 (by rw [l32]; omega)) (And.intro (by omega) (And.intro (room1 (by rw [ln]; omega)) (And.intro (room1 (by rw [lt]; omega)) (And.intro (room1 (by simp)) ?_)))))
  refine And.intro (room1 (by rw [lx]; omega)) (And.intro rfl ⟨ms2, plain, rfl, by omega, fun spo ms3 hspo => ?_⟩)
  refine And.intro (room1 (by simp)) (And.intro (room1 (by simp)) ?_)
  refine for_data (fun (rem : List PyData) (σ : SSt) => ∃ x7 x8 x9, (∀ d ∈ rem, ∃ t : Str, d = .str t ∧ t.length ≤ 100000) ∧ σ = [some (.scr ns), some (.lst (I2 ms3)), some (.val (.str line)), some (.val (.list (words.map .str))), none, some (.val (.str plain)), some (.val (.str many)), x7, x8, x9, none, none, none])
    (fun d rem σ N hN h => ?_) (fun σ h => ?_) _ _ ⟨_, none, none, fun d hd => ?_, rfl⟩
  rotate_left
  rotate_left
  · simp only [List.mem_append, List.mem_cons, List.not_mem_nil, or_false] at hd
    rcases hd with (rfl | rfl | rfl | rfl | rfl) | (rfl | rfl | rfl | rfl | rfl | rfl | rfl | rfl)
    all_goals refine ⟨_, rfl, ?_⟩
    all_goals first
      | omega
      | (rw [lap]; omega)
      | decide +kernel
  · obtain ⟨x7, x8, x9, hrem, rfl⟩ := h
    obtain ⟨t, rfl, ht⟩ := hrem d (by simp)
    have hrem2 := fun d m => hrem d (List.mem_cons_of_mem _ m)
    cases hwo : wordsOf t with
    | none =>
      refine And.intro rfl ⟨t, rfl, ht, ?_⟩
      rw [hwo]
      refine And.intro show_none (And.intro rfl ⟨t, rfl, ht, ?_⟩)
      rw [hwo]
      refine And.intro show_none (And.intro ⟨dep_str, dep_str⟩ (ifb_nes (And.intro rfl ?_)))
      exact hN _ ⟨_, _, _, hrem2, rfl⟩
    | some ws =>
      have hws : ws = Txt.split t " " := by
        unfold wordsOf at hwo
        split at hwo
        · exact (Option.some.inj hwo).symm
        · cases hwo
      have tot := split_total (x := t) (y := " ") (by rw [e32]; simp) hb2
      rw [← hws] at tot
      have sh : ReprS (.list (ws.map .str)) := show_strs (by omega)
      refine And.intro rfl ⟨t, rfl, ht, ?_⟩
      rw [hwo]
      refine And.intro sh (And.intro rfl ⟨t, rfl, ht, ?_⟩)
      rw [hwo]
      refine And.intro sh (And.intro ⟨dep_str, dep_str⟩ (ifb_nes (And.intro rfl ?_)))
      refine And.intro (room2 (by rw [List.length_map]; omega)) ?_
      refine And.intro rfl ⟨t, rfl, ht, ?_⟩
      rw [hwo]
      refine And.intro sh (And.intro rfl ⟨t, rfl, ht, ?_⟩)
      rw [hwo]
      refine And.intro sh (And.intro ⟨dep_str, dep_str⟩ (ifb_nes ?_))
      exact hN _ ⟨_, _, _, hrem2, rfl⟩
  obtain ⟨x7, x8, x9, _, rfl⟩ := h
  -- letters
  refine And.intro rfl (And.intro rfl ⟨ms3, rfl, fun n4 ms4 => And.intro (by decide) ?_⟩)
  have hn1 : 0 ≤ n4 % 14 := Int.emod_nonneg n4 (by decide)
  have hn2 : n4 % 14 < 14 := Int.emod_lt_of_pos n4 (by decide)
  refine And.intro ⟨by omega, by omega⟩ ?_
  refine lc_map (fun i : Nat => PyData.int (0 + (i : Int))) (fun (rem : List Nat) (acc : List PyData) (σ : SSt) => ∃ (ys : List Str) (ms : List Int), acc = ys.map .str ∧ (ys.map (·.length)).sum = ys.length ∧ ys.length + rem.length ≤ 14 ∧ σ = [some (.scr ns), some (.lst (I2 ms)), some (.val (.str line)), some (.val (.list (words.map .str))), none, some (.val (.str plain)), some (.val (.str many)), x7, x8, x9, none, none, none])
    (fun i rem acc σ N hN h => ?_) (fun acc σ h => ?_) (List.range (n4 % 14 - 0).toNat) [] _ ⟨[], ms4, rfl, rfl, by simp; omega, rfl⟩
  · obtain ⟨ys, ms, rfl, h1, hl2, rfl⟩ := h
    rw [List.length_cons] at hl2
    refine And.intro rfl ⟨ms, rfl, fun n2 ms2 => ?_⟩
    have pos : 0 < ("abcdefghijklmnopqrstuvwxyz" : Str).cps.toList.length := by decide +kernel
    obtain ⟨c, ec, _⟩ := atI_mod ("abcdefghijklmnopqrstuvwxyz" : Str).cps.toList pos n2
    have e26 : ((("abcdefghijklmnopqrstuvwxyz" : Str).cps.toList.length : Nat) : Int) = 26 := by decide +kernel
    rw [e26] at ec
    refine And.intro (by decide) (need_of ec ?_)
    refine And.intro (room2 (by rw [List.length_map]; omega)) (hN _ _ ⟨ys ++ [⟨#[c]⟩], ms2, by simp, ?_, by simp; omega, rfl⟩)
    simp only [List.map_append, List.sum_append, List.length_append, h1]
    rfl
  obtain ⟨ys, ms5, rfl, h1, hl2, rfl⟩ := h
  have e0 : ("" : Str).length = 0 := by decide +kernel
  refine need_of (strsOf_map ys) (And.intro (by rw [h1, e0]; omega) ?_)
  have hlet : (Txt.join "" ys).length ≤ 14 := by
    have := join_len "" ys
    rw [join_eq]
    rw [h1, e0] at this
    simp only [List.length_nil] at hl2
    omega
  generalize Txt.join "" ys = letters at hlet
  have lA : ("A" : Str).length = 1 := by decide +kernel
  have la : ("a" : Str).length ≤ 1000 := by decide +kernel
  refine And.intro (room1 (by rw [lA]; omega)) (And.intro ⟨by decide, by decide, la⟩ (And.intro ⟨by decide, by decide, la⟩ ?_))
  refine And.intro rfl ⟨ms5, letters, rfl, by omega, fun spo2 ms6 hspo2 => ?_⟩
  refine And.intro (room1 (by simp)) (And.intro (room1 (by simp; omega)) ?_)
  refine for_data (fun (rem : List PyData) (σ : SSt) => ∃ x4, (∀ d ∈ rem, ∃ t : Str, d = .str t) ∧ σ = [some (.scr ns), some (.lst (I2 ms6)), some (.val (.str line)), some (.val (.list (words.map .str))), x4, some (.val (.str plain)), some (.val (.str many)), x7, x8, x9, some (.val (.str letters)), none, none])
    (fun d rem σ N hN h => ?_) (fun σ h => ?_) _ _ ⟨none, fun d hd => ?_, rfl⟩
  rotate_left
  rotate_left
  · rcases List.mem_append.mp hd with hd | hd
    · obtain ⟨t, _, e⟩ := List.mem_map.mp hd
      exact ⟨t, e.symm⟩
    · simp only [List.mem_cons, List.not_mem_nil, or_false] at hd
      rcases hd with rfl | rfl | rfl | rfl | rfl | rfl | rfl | rfl
      all_goals exact ⟨_, rfl⟩
  · obtain ⟨x4, hrem, rfl⟩ := h
    obtain ⟨t, rfl⟩ := hrem d (by simp)
    refine And.intro rfl ⟨t, rfl, And.intro show_bool (And.intro rfl ⟨t, rfl, And.intro show_bool (And.intro ⟨dep_str, dep_str⟩ (ifb_nes ?_))⟩)⟩
    exact hN _ ⟨_, fun d m => hrem d (List.mem_cons_of_mem _ m), rfl⟩
  obtain ⟨x4, _, rfl⟩ := h
  -- figure
  refine And.intro rfl ⟨ms6, rfl, fun n7 ms7 => And.intro (by decide) ?_⟩
  have hf1 : 0 ≤ n7 % 120 := Int.emod_nonneg n7 (by decide)
  have hf2 : n7 % 120 < 120 := Int.emod_lt_of_pos n7 (by decide)
  have hf3 : (n7 % 120).natAbs < 10 ^ 18 := Nat.lt_trans (show _ < 120 by omega) (by decide)
  have hf4 := log_small hf3
  refine And.intro (by omega) ?_
  have hfig : (Str.ofString (toString (n7 % 120))).length ≤ 4 := by
    rw [PySem.ofString_length]
    exact PySem.int_text_length_le10 (k := 3) (by decide) (show (n7 % 120).natAbs < 10 ^ 3 by omega)
  generalize Str.ofString (toString (n7 % 120)) = figure at hfig
  have l0 : ("0" : Str).length = 1 := by decide +kernel
  have lm : ("-" : Str).length = 1 := by decide +kernel
  refine And.intro (room1 (by rw [l0]; omega)) (And.intro (room1 (by rw [lm]; omega)) ?_)
  refine And.intro rfl ⟨ms7, figure, rfl, by omega, fun spo3 ms8 hspo3 => ?_⟩
  refine And.intro (room1 (by simp)) (And.intro (room1 (by simp; omega)) ?_)
  refine for_data (fun (rem : List PyData) (σ : SSt) => ∃ x4, (∀ d ∈ rem, ∃ t : Str, d = .str t) ∧ σ = [some (.scr ns), some (.lst (I2 ms8)), some (.val (.str line)), some (.val (.list (words.map .str))), x4, some (.val (.str plain)), some (.val (.str many)), x7, x8, x9, some (.val (.str letters)), none, some (.val (.str figure))])
    (fun d rem σ N hN h => ?_) (fun σ h => ?_) _ _ ⟨_, fun d hd => ?_, rfl⟩
  rotate_left
  rotate_left
  · rcases List.mem_append.mp hd with hd | hd
    · obtain ⟨t, _, e⟩ := List.mem_map.mp hd
      exact ⟨t, e.symm⟩
    · simp only [List.mem_cons, List.not_mem_nil, or_false] at hd
      rcases hd with rfl | rfl | rfl | rfl | rfl | rfl | rfl | rfl | rfl | rfl | rfl
      all_goals exact ⟨_, rfl⟩
  · obtain ⟨x4, hrem, rfl⟩ := h
    obtain ⟨t, rfl⟩ := hrem d (by simp)
    refine And.intro rfl ⟨t, rfl, And.intro (show_num t) (And.intro rfl ⟨t, rfl, And.intro (show_num t) (And.intro ⟨dep_str, dep_str⟩ (ifb_nes ?_))⟩)⟩
    exact hN _ ⟨_, fun d m => hrem d (List.mem_cons_of_mem _ m), rfl⟩
  obtain ⟨x4, _, rfl⟩ := h
  exact q
end
theorem all_mk {l : PySem.W.OpenLaw} {w : World} {K : PySem.W.Frag} {h : Heap} {mg : Str → Option Value} {fa : Addr} (X : K.In h) (G : h.Ns mainGlobals mg) (hfa : mg "law" = some (.ref fa))
    {f0 : Addr} {od0 an0 : Option Addr} {sl0 : Array (Option Value)} {oc0 kV0 dc0 pm0 cd0 ct0 : Value}
    (a0 : PySem.W.nsIn K mainGlobals "_law_next" = some (some (.ref f0)))
    (l0 : K.lookup f0 = some ⟨oc0, od0, .func (PySem.W.fnOf "_law_next" "_law_next" (defArgs s_lawnext) (defBody s_lawnext) (defScope s_lawnext) .none kV0 dc0 pm0 an0 cd0 ct0), sl0⟩)
    (c0 : PySem.W.codeIn K cd0 "_law_next" = true) (k0 : PySem.W.keepIn K (.ref f0) = true)
    {f1 : Addr} {od1 an1 : Option Addr} {sl1 : Array (Option Value)} {oc1 kV1 dc1 pm1 cd1 ct1 : Value}
    (a1 : PySem.W.nsIn K mainGlobals "_law_spoilt" = some (some (.ref f1)))
    (l1 : K.lookup f1 = some ⟨oc1, od1, .func (PySem.W.fnOf "_law_spoilt" "_law_spoilt" (defArgs s_lawspoilt) (defBody s_lawspoilt) (defScope s_lawspoilt) .none kV1 dc1 pm1 an1 cd1 ct1), sl1⟩)
    (c1 : PySem.W.codeIn K cd1 "_law_spoilt" = true) (k1 : PySem.W.keepIn K (.ref f1) = true)
    {f2 : Addr} {od2 an2 : Option Addr} {sl2 : Array (Option Value)} {oc2 kV2 dc2 pm2 cd2 ct2 : Value}
    (a2 : PySem.W.nsIn K mainGlobals "number_in" = some (some (.ref f2)))
    (l2 : K.lookup f2 = some ⟨oc2, od2, .func (PySem.W.fnOf "number_in" "number_in" (defArgs s_numberin) (defBody s_numberin) (defScope s_numberin) .none kV2 dc2 pm2 an2 cd2 ct2), sl2⟩)
    (c2 : PySem.W.codeIn K cd2 "number_in" = true) (k2 : PySem.W.keepIn K (.ref f2) = true)
    {f3 : Addr} {od3 an3 : Option Addr} {sl3 : Array (Option Value)} {oc3 kV3 dc3 pm3 cd3 ct3 : Value}
    (a3 : PySem.W.nsIn K mainGlobals "_law_number_in" = some (some (.ref f3)))
    (l3 : K.lookup f3 = some ⟨oc3, od3, .func (PySem.W.fnOf "_law_number_in" "_law_number_in" (defArgs s_lawnumberin) (defBody s_lawnumberin) (defScope s_lawnumberin) .none kV3 dc3 pm3 an3 cd3 ct3), sl3⟩)
    (c3 : PySem.W.codeIn K cd3 "_law_number_in" = true) (k3 : PySem.W.keepIn K (.ref f3) = true)
    {f4 : Addr} {od4 an4 : Option Addr} {sl4 : Array (Option Value)} {oc4 kV4 dc4 pm4 cd4 ct4 : Value}
    (a4 : PySem.W.nsIn K mainGlobals "is_name" = some (some (.ref f4)))
    (l4 : K.lookup f4 = some ⟨oc4, od4, .func (PySem.W.fnOf "is_name" "is_name" (defArgs s_isname) (defBody s_isname) (defScope s_isname) .none kV4 dc4 pm4 an4 cd4 ct4), sl4⟩)
    (c4 : PySem.W.codeIn K cd4 "is_name" = true) (k4 : PySem.W.keepIn K (.ref f4) = true)
    {f5 : Addr} {od5 an5 : Option Addr} {sl5 : Array (Option Value)} {oc5 kV5 dc5 pm5 cd5 ct5 : Value}
    (a5 : PySem.W.nsIn K mainGlobals "_law_is_name" = some (some (.ref f5)))
    (l5 : K.lookup f5 = some ⟨oc5, od5, .func (PySem.W.fnOf "_law_is_name" "_law_is_name" (defArgs s_lawisname) (defBody s_lawisname) (defScope s_lawisname) .none kV5 dc5 pm5 an5 cd5 ct5), sl5⟩)
    (c5 : PySem.W.codeIn K cd5 "_law_is_name" = true) (k5 : PySem.W.keepIn K (.ref f5) = true)
    {f6 : Addr} {od6 an6 : Option Addr} {sl6 : Array (Option Value)} {oc6 kV6 dc6 pm6 cd6 ct6 : Value}
    (a6 : PySem.W.nsIn K mainGlobals "words_of" = some (some (.ref f6)))
    (l6 : K.lookup f6 = some ⟨oc6, od6, .func (PySem.W.fnOf "words_of" "words_of" (defArgs s_wordsof) (defBody s_wordsof) (defScope s_wordsof) .none kV6 dc6 pm6 an6 cd6 ct6), sl6⟩)
    (c6 : PySem.W.codeIn K cd6 "words_of" = true) (k6 : PySem.W.keepIn K (.ref f6) = true)
    {f7 : Addr} {od7 an7 : Option Addr} {sl7 : Array (Option Value)} {oc7 kV7 dc7 pm7 cd7 ct7 : Value}
    (a7 : PySem.W.nsIn K mainGlobals "_law_words" = some (some (.ref f7)))
    (l7 : K.lookup f7 = some ⟨oc7, od7, .func (PySem.W.fnOf "_law_words" "_law_words" (defArgs s_lawwords) (defBody s_lawwords) (defScope s_lawwords) .none kV7 dc7 pm7 an7 cd7 ct7), sl7⟩)
    (c7 : PySem.W.codeIn K cd7 "_law_words" = true) (k7 : PySem.W.keepIn K (.ref f7) = true)
    {f8 : Addr} {od8 an8 : Option Addr} {sl8 : Array (Option Value)} {oc8 kV8 dc8 pm8 cd8 ct8 : Value}
    (a8 : PySem.W.nsIn K mainGlobals "_law_line" = some (some (.ref f8)))
    (l8 : K.lookup f8 = some ⟨oc8, od8, .func (PySem.W.fnOf "_law_line" "_law_line" (defArgs s_lawline) (defBody s_lawline) (defScope s_lawline) .none kV8 dc8 pm8 an8 cd8 ct8), sl8⟩)
    (c8 : PySem.W.codeIn K cd8 "_law_line" = true) (k8 : PySem.W.keepIn K (.ref f8) = true)
    {f9 : Addr} {od9 an9 : Option Addr} {sl9 : Array (Option Value)} {oc9 kV9 dc9 pm9 cd9 ct9 : Value}
    (a9 : PySem.W.nsIn K mainGlobals "_law_number" = some (some (.ref f9)))
    (l9 : K.lookup f9 = some ⟨oc9, od9, .func (PySem.W.fnOf "_law_number" "_law_number" (defArgs s_lawnumber) (defBody s_lawnumber) (defScope s_lawnumber) .none kV9 dc9 pm9 an9 cd9 ct9), sl9⟩)
    (c9 : PySem.W.codeIn K cd9 "_law_number" = true) (k9 : PySem.W.keepIn K (.ref f9) = true)
    {f10 : Addr} {od10 an10 : Option Addr} {sl10 : Array (Option Value)} {oc10 kV10 dc10 pm10 cd10 ct10 : Value}
    (a10 : PySem.W.nsIn K mainGlobals "_law_draws" = some (some (.ref f10)))
    (l10 : K.lookup f10 = some ⟨oc10, od10, .func (PySem.W.fnOf "_law_draws" "_law_draws" (defArgs s_lawdraws) (defBody s_lawdraws) (defScope s_lawdraws) .none kV10 dc10 pm10 an10 cd10 ct10), sl10⟩)
    (c10 : PySem.W.codeIn K cd10 "_law_draws" = true) (k10 : PySem.W.keepIn K (.ref f10) = true)
    {f11 : Addr} {od11 an11 : Option Addr} {sl11 : Array (Option Value)} {oc11 kV11 dc11 pm11 cd11 ct11 : Value}
    (a11 : PySem.W.nsIn K mainGlobals "law" = some (some (.ref f11)))
    (l11 : K.lookup f11 = some ⟨oc11, od11, .func (PySem.W.fnOf "law" "law" (defArgs s_law) (defBody s_law) (defScope s_law) .none kV11 dc11 pm11 an11 cd11 ct11), sl11⟩)
    (c11 : PySem.W.codeIn K cd11 "law" = true) (k11 : PySem.W.keepIn K (.ref f11) = true)
    (z_all : PySem.W.nsIn K mainGlobals "all" = some none)
    (z_int : PySem.W.nsIn K mainGlobals "int" = some none)
    (z_len : PySem.W.nsIn K mainGlobals "len" = some none)
    (z_range : PySem.W.nsIn K mainGlobals "range" = some none)
    (z_repr : PySem.W.nsIn K mainGlobals "repr" = some none)
    (z_str : PySem.W.nsIn K mainGlobals "str" = some none)
    {t_FIGURES : Tok} (y_FIGURES : PySem.W.nsIn K mainGlobals "FIGURES" = some (some (.str "0123456789" t_FIGURES)))
    {t_SMALL : Tok} (y_SMALL : PySem.W.nsIn K mainGlobals "SMALL" = some (some (.str "abcdefghijklmnopqrstuvwxyz" t_SMALL)))
    : ∃ fd : FuncData, (∀ (s : Shared) (v : Value), BindsTo s fd ⟨[v], []⟩ [("script", v)]) ∧ ∀ base : Heap, K.In base → base.Ns mainGlobals mg → FnG l.prog w K mg base 3 fa fd ["script"] sp_law := by
  have e := hfa.symm.trans (PySem.W.mg_of X G a11)
  cases e
  have F0 := fun_mk (st := s_lawnext) l0 c0 k0
  have F1 := fun_mk (st := s_lawspoilt) l1 c1 k1
  have F2 := fun_mk (st := s_numberin) l2 c2 k2
  have F3 := fun_mk (st := s_lawnumberin) l3 c3 k3
  have F4 := fun_mk (st := s_isname) l4 c4 k4
  have F5 := fun_mk (st := s_lawisname) l5 c5 k5
  have F6 := fun_mk (st := s_wordsof) l6 c6 k6
  have F7 := fun_mk (st := s_lawwords) l7 c7 k7
  have F8 := fun_mk (st := s_lawline) l8 c8 k8
  have F9 := fun_mk (st := s_lawnumber) l9 c9 k9
  have F10 := fun_mk (st := s_lawdraws) l10 c10 k10
  have F11 := fun_mk (st := s_law) l11 c11 k11
  refine ⟨_, fun s v => .of_eq rfl, fun base _ _ => ok_law {
    a_lawnext := f0, d_lawnext := _, F_lawnext := F0, b_lawnext := F0.binds (ps := ["draws"]) (fun _ _ _ _ _ _ us hl => match us, hl with | [_], _ => rfl), g_lawnext := PySem.W.mg_of X G a0
    a_lawspoilt := f1, d_lawspoilt := _, F_lawspoilt := F1, b_lawspoilt := F1.binds (ps := ["draws", "text"]) (fun _ _ _ _ _ _ us hl => match us, hl with | [_, _], _ => rfl), g_lawspoilt := PySem.W.mg_of X G a1
    a_numberin := f2, d_numberin := _, F_numberin := F2, b_numberin := F2.binds (ps := ["word"]) (fun _ _ _ _ _ _ us hl => match us, hl with | [_], _ => rfl), g_numberin := PySem.W.mg_of X G a2
    a_lawnumberin := f3, d_lawnumberin := _, F_lawnumberin := F3, b_lawnumberin := F3.binds (ps := ["word"]) (fun _ _ _ _ _ _ us hl => match us, hl with | [_], _ => rfl), g_lawnumberin := PySem.W.mg_of X G a3
    a_isname := f4, d_isname := _, F_isname := F4, b_isname := F4.binds (ps := ["word"]) (fun _ _ _ _ _ _ us hl => match us, hl with | [_], _ => rfl), g_isname := PySem.W.mg_of X G a4
    a_lawisname := f5, d_lawisname := _, F_lawisname := F5, b_lawisname := F5.binds (ps := ["word"]) (fun _ _ _ _ _ _ us hl => match us, hl with | [_], _ => rfl), g_lawisname := PySem.W.mg_of X G a5
    a_wordsof := f6, d_wordsof := _, F_wordsof := F6, b_wordsof := F6.binds (ps := ["line"]) (fun _ _ _ _ _ _ us hl => match us, hl with | [_], _ => rfl), g_wordsof := PySem.W.mg_of X G a6
    a_lawwords := f7, d_lawwords := _, F_lawwords := F7, b_lawwords := F7.binds (ps := ["line"]) (fun _ _ _ _ _ _ us hl => match us, hl with | [_], _ => rfl), g_lawwords := PySem.W.mg_of X G a7
    a_lawline := f8, d_lawline := _, F_lawline := F8, b_lawline := F8.binds (ps := ["draws"]) (fun _ _ _ _ _ _ us hl => match us, hl with | [_], _ => rfl), g_lawline := PySem.W.mg_of X G a8
    a_lawnumber := f9, d_lawnumber := _, F_lawnumber := F9, b_lawnumber := F9.binds (ps := ["cell"]) (fun _ _ _ _ _ _ us hl => match us, hl with | [_], _ => rfl), g_lawnumber := PySem.W.mg_of X G a9
    a_lawdraws := f10, d_lawdraws := _, F_lawdraws := F10, b_lawdraws := F10.binds (ps := ["script"]) (fun _ _ _ _ _ _ us hl => match us, hl with | [_], _ => rfl), g_lawdraws := PySem.W.mg_of X G a10
    a_law := fa, d_law := _, F_law := F11, b_law := F11.binds (ps := ["script"]) (fun _ _ _ _ _ _ us hl => match us, hl with | [_], _ => rfl), g_law := PySem.W.mg_of X G a11
    m_all := PySem.W.mg_none_of X G z_all
    m_int := PySem.W.mg_none_of X G z_int
    m_len := PySem.W.mg_none_of X G z_len
    m_range := PySem.W.mg_none_of X G z_range
    m_repr := PySem.W.mg_none_of X G z_repr
    m_str := PySem.W.mg_none_of X G z_str
    t_FIGURES := t_FIGURES, g_FIGURES := PySem.W.mg_of X G y_FIGURES
    t_SMALL := t_SMALL, g_SMALL := PySem.W.mg_of X G y_SMALL
  }⟩
end K90
open PySem PySem.W PyProof.Rows
set_option maxHeartbeats 0 in
theorem PySem.Challenge.cw_coheir_k90_lines_and_words_holds : PySem.Challenge.rw_coheir_k90_lines_and_words.Holds := by
  w_on; o_law; k_head; (case hw => w_witness2)
  k_fill
  refine SV.walkG (l := PySem.Challenge.rw_coheir_k90_lines_and_words) (n := 63) (k := 3) (x := "script") (sp := K90.sp_law) rfl (by decide) rfl ⟨rfl, by decide, by decide⟩ (fun w h Y => PySem.W.kIn_of Y) ?F (fun ns hl => K90.sp_start ns hl)
  case F =>
    intro w mg fa h KX G hmg
    refine' K90.all_mk KX G hmg ?a0 ?l0 ?c0 ?k0 ?a1 ?l1 ?c1 ?k1 ?a2 ?l2 ?c2 ?k2 ?a3 ?l3 ?c3 ?k3 ?a4 ?l4 ?c4 ?k4 ?a5 ?l5 ?c5 ?k5 ?a6 ?l6 ?c6 ?k6 ?a7 ?l7 ?c7 ?k7 ?a8 ?l8 ?c8 ?k8 ?a9 ?l9 ?c9 ?k9 ?a10 ?l10 ?c10 ?k10 ?a11 ?l11 ?c11 ?k11 ?z_all ?z_int ?z_len ?z_range ?z_repr ?z_str ?y_FIGURES ?y_SMALL
    (case a0 => k_is)
    (case l0 => k_is)
    (case c0 => k_is)
    (case k0 => k_is)
    (case a1 => k_is)
    (case l1 => k_is)
    (case c1 => k_is)
    (case k1 => k_is)
    (case a2 => k_is)
    (case l2 => k_is)
    (case c2 => k_is)
    (case k2 => k_is)
    (case a3 => k_is)
    (case l3 => k_is)
    (case c3 => k_is)
    (case k3 => k_is)
    (case a4 => k_is)
    (case l4 => k_is)
    (case c4 => k_is)
    (case k4 => k_is)
    (case a5 => k_is)
    (case l5 => k_is)
    (case c5 => k_is)
    (case k5 => k_is)
    (case a6 => k_is)
    (case l6 => k_is)
    (case c6 => k_is)
    (case k6 => k_is)
    (case a7 => k_is)
    (case l7 => k_is)
    (case c7 => k_is)
    (case k7 => k_is)
    (case a8 => k_is)
    (case l8 => k_is)
    (case c8 => k_is)
    (case k8 => k_is)
    (case a9 => k_is)
    (case l9 => k_is)
    (case c9 => k_is)
    (case k9 => k_is)
    (case a10 => k_is)
    (case l10 => k_is)
    (case c10 => k_is)
    (case k10 => k_is)
    (case a11 => k_is)
    (case l11 => k_is)
    (case c11 => k_is)
    (case k11 => k_is)
    (case z_all => k_is)
    (case z_int => k_is)
    (case z_len => k_is)
    (case z_range => k_is)
    (case z_repr => k_is)
    (case z_str => k_is)
    (case y_FIGURES => k_is)
    (case y_SMALL => k_is)
