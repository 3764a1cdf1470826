import PyProof.Rows.All
import HandS.ForMost
import HandS.ForExc
import HandS.TryMany
import HandS.SuiteRaise
import KE.SortData
import KE.KDictKeyed
import PyProof.ReprRoads
import PyProof.P3Eq
import PyProof.Rows.EqDataRows
import HandS.TupAny
import HandS.TupMul
import HandS.Deep
import HandS.Conv
import HandS.StrMore
import PyProof.ReprBulk
import PyProof.FitsInt
import HandS.RaiseMore
import HandS.More
import HandS.Iter
import HandS.Comp
import HandS.Ends
import HandS.Words
import HandS.Replace
import HandS.ExcOwn
import HandS.TryOnly
import HandS.ExcIs
import PyProof.Rows.RuleIs
import KE.KTops
import KE.KDictMeth
import PyProof.ListRange
import HandS.Sort
import PySem.Challenge.RW_coheir_k12_programs_and_what_is_none
set_option Elab.async false
set_option linter.all false
set_option maxRecDepth 100000
set_option maxHeartbeats 8000000
/-! SvA: values without a heap: pure data, owned lists; what represents them; how a state evolves. -/
namespace SV
open PySem PySem.Spec PyProof.Rows L2

/-- what a slot, or a result, holds: pure data that is never changed; an owned list; an owned dict; an owned instance -/
inductive S where
  | val (d : PyData)
  | lst (ds : List PyData)
  | dct (kvs : List (PyData × PyData))
  | ins (C : Addr) (fs : List (Str × S))
  | scr (ns : List Int)
  | adr (a : Addr)

def S.toD : S → Option PyData
  | .val d => some d
  | .lst ds => some (.list ds)
  | _ => none

abbrev SSt := List (Option S)
def gets : SSt → Nat → Option S
  | [], _ => none
  | x :: _, 0 => x
  | _ :: r, n + 1 => gets r n
def sets : SSt → Nat → Option S → SSt
  | [], _, _ => []
  | _ :: r, 0, y => y :: r
  | x :: r, n + 1, y => x :: sets r n y
theorem gets_sets_same : ∀ {σ : SSt} {i : Nat} {y : S}, i < σ.length → gets (sets σ i (some y)) i = some y
  | [], i, y, h => absurd h (Nat.not_lt_zero _)
  | _ :: _, 0, _, _ => rfl
  | _ :: r, n + 1, y, h => gets_sets_same (σ := r) (Nat.lt_of_succ_lt_succ h)
theorem gets_sets_ne : ∀ {σ : SSt} {i j : Nat} {y : Option S}, j ≠ i → gets (sets σ i y) j = gets σ j
  | [], _, _, _, _ => rfl
  | _ :: _, 0, 0, _, h => absurd rfl h
  | _ :: _, 0, _ + 1, _, _ => rfl
  | _ :: _, _ + 1, 0, _, _ => rfl
  | _ :: r, i + 1, j + 1, y, h => gets_sets_ne (σ := r) (fun e => h (by rw [e]))
theorem gets_sets_none : ∀ {σ : SSt} {i : Nat}, gets (sets σ i none) i = none
  | [], _ => rfl
  | _ :: _, 0 => rfl
  | _ :: r, n + 1 => gets_sets_none (σ := r)
theorem sets_length : ∀ {σ : SSt} {i : Nat} {y : Option S}, (sets σ i y).length = σ.length
  | [], _, _ => rfl
  | _ :: _, 0, _ => rfl
  | _ :: r, n + 1, y => by
    show (sets r n y).length + 1 = r.length + 1
    rw [sets_length]
theorem gets_some_lt : ∀ {σ : SSt} {i : Nat} {y : S}, gets σ i = some y → i < σ.length
  | [], _, _, h => by cases h
  | _ :: _, 0, _, _ => Nat.succ_pos _
  | _ :: r, n + 1, _, h => Nat.succ_lt_succ (gets_some_lt (σ := r) h)

section
variable (K : PySem.W.Frag)
mutual
/-- v is the pure data d, by objects of I alone -/
inductive PR (I : Hp) : V → PyData → Prop
  | non : PR I .non .none
  | bl (b : Bool) : PR I (.bl b) (.bool b)
  | int (i : Int) : PR I (.int i) (.int i)
  | str (x : Str) : PyData.strOk x = true → x.length ≤ sizeLine → PR I (.str x) (.str x)
  | tup {a : Addr} {vs : List V} {ds : List PyData} : SqT K I a vs → PRs I vs ds → PR I (.ref a) (.tuple ds)
  | lst {a : Addr} {vs : List V} {ds : List PyData} : I a = some (.lst vs) → PRs I vs ds → PR I (.ref a) (.list ds)
inductive PRs (I : Hp) : List V → List PyData → Prop
  | nil : PRs I [] []
  | cons {v : V} {d : PyData} {vs : List V} {ds : List PyData} : PR I v d → PRs I vs ds → PRs I (v :: vs) (d :: ds)
end

mutual
/-- v is r, its owned objects at R -/
inductive SR (I H : Hp) : V → S → List Addr → Prop
  | val {v : V} {d : PyData} : PR K I v d → SR I H v (.val d) []
  | lst {a : Addr} {vs : List V} {ds : List PyData} : H a = some (.lst vs) → PRs K I vs ds → SR I H (.ref a) (.lst ds) [a]
  | scr {a : Addr} {ns : List Int} : SqL K I a (ns.map V.int) → SR I H (.ref a) (.scr ns) []
  | adr (a : Addr) : SR I H (.ref a) (.adr a) []
  | ins {a C dx : Addr} {vf : List (Str × V)} {fs : List (Str × S)} {R : List Addr} : H a = some (.ins C dx vf) → H dx = some (.own a) → FRs I H vf fs R → a ∉ R → dx ∉ R → a ≠ dx → SR I H (.ref a) (.ins C fs) (a :: dx :: R)
inductive FRs (I H : Hp) : List (Str × V) → List (Str × S) → List Addr → Prop
  | nil : FRs I H [] [] []
  | cons {f : Str} {v : V} {r : S} {R Rs : List Addr} {vf : List (Str × V)} {fs : List (Str × S)} : SR I H v r R → FRs I H vf fs Rs → (∀ a ∈ R, a ∉ Rs) → FRs I H ((f, v) :: vf) ((f, r) :: fs) (R ++ Rs)
end
end

abbrev Sub (I H : Hp) : Prop := ∀ a x, I a = some x → H a = some x
theorem Sub.refl (I : Hp) : Sub I I := fun _ _ h => h
theorem Sub.trans {I J H : Hp} (a : Sub I J) (b : Sub J H) : Sub I H := fun c x h => b c x (a c x h)

section
variable {K : PySem.W.Frag} {I I' H H' : Hp}
theorem SqT.sub {a : Addr} {xs : List V} (e : Sub I I') (h : SqT K I a xs) : SqT K I' a xs := by
  rcases h with (h | ⟨o, h⟩) | h
  · exact .inl (.inl (e _ _ h))
  · exact .inl (.inr ⟨o, e _ _ h⟩)
  · exact .inr h
theorem SqL.sub {a : Addr} {xs : List V} (e : Sub I I') (h : SqL K I a xs) : SqL K I' a xs := by
  rcases h with (h | ⟨o, h⟩) | h
  · exact .inl (.inl (e _ _ h))
  · exact .inl (.inr ⟨o, e _ _ h⟩)
  · exact .inr h
mutual
theorem PR.sub (e : Sub I I') : ∀ {v : V} {d : PyData}, PR K I v d → PR K I' v d
  | _, _, .non => .non
  | _, _, .bl b => .bl b
  | _, _, .int i => .int i
  | _, _, .str x h z => .str x h z
  | _, _, .tup h r => .tup (SqT.sub e h) (PRs.sub e r)
  | _, _, .lst h r => .lst (e _ _ h) (PRs.sub e r)
theorem PRs.sub (e : Sub I I') : ∀ {vs : List V} {ds : List PyData}, PRs K I vs ds → PRs K I' vs ds
  | _, _, .nil => .nil
  | _, _, .cons h t => .cons (PR.sub e h) (PRs.sub e t)
end
theorem PRs.length : ∀ {vs : List V} {ds : List PyData}, PRs K I vs ds → vs.length = ds.length
  | _, _, .nil => rfl
  | _, _, .cons _ t => by simp [PRs.length t]
theorem PRs.get : ∀ {vs : List V} {ds : List PyData} {i : Nat} {d : PyData}, PRs K I vs ds → ds[i]? = some d → ∃ v, vs[i]? = some v ∧ PR K I v d
  | _, _, _, _, .nil, h => by simp at h
  | _, _, 0, _, .cons r _, h => by
    simp at h
    subst h
    exact ⟨_, rfl, r⟩
  | _, _, i + 1, _, .cons _ t, h => by
    obtain ⟨v, e, r⟩ := PRs.get (i := i) t (by simpa using h)
    exact ⟨v, by simpa using e, r⟩
theorem PRs.getV : ∀ {vs : List V} {ds : List PyData} {i : Nat} {v : V}, PRs K I vs ds → vs[i]? = some v → ∃ d, ds[i]? = some d ∧ PR K I v d
  | _, _, _, _, .nil, h => by simp at h
  | _, _, 0, _, .cons r _, h => by
    simp at h
    subst h
    exact ⟨_, rfl, r⟩
  | _, _, i + 1, _, .cons _ t, h => by
    obtain ⟨v, e, r⟩ := PRs.getV (i := i) t (by simpa using h)
    exact ⟨v, by simpa using e, r⟩
theorem PRs.append : ∀ {vs : List V} {ds : List PyData} {vs' : List V} {ds' : List PyData}, PRs K I vs ds → PRs K I vs' ds' → PRs K I (vs ++ vs') (ds ++ ds')
  | _, _, _, _, .nil, q => q
  | _, _, _, _, .cons h t, q => .cons h (PRs.append t q)
theorem PRs.take : ∀ {vs : List V} {ds : List PyData} (n : Nat), PRs K I vs ds → PRs K I (vs.take n) (ds.take n)
  | _, _, 0, _ => .nil
  | _, _, _ + 1, .nil => .nil
  | _, _, n + 1, .cons h t => .cons h (PRs.take n t)
theorem PRs.drop : ∀ {vs : List V} {ds : List PyData} (n : Nat), PRs K I vs ds → PRs K I (vs.drop n) (ds.drop n)
  | _, _, 0, h => h
  | _, _, _ + 1, .nil => .nil
  | _, _, n + 1, .cons h t => PRs.drop n t
theorem PRs.reverse : ∀ {vs : List V} {ds : List PyData}, PRs K I vs ds → PRs K I vs.reverse ds.reverse
  | _, _, .nil => .nil
  | _, _, .cons h t => by
    rw [List.reverse_cons, List.reverse_cons]
    exact PRs.append (PRs.reverse t) (.cons h .nil)
theorem PRs.set : ∀ {vs : List V} {ds : List PyData} {v : V} {d : PyData} (i : Nat), PRs K I vs ds → PR K I v d → PRs K I (vs.set i v) (ds.set i d)
  | _, _, _, _, _, .nil, _ => .nil
  | _, _, _, _, 0, .cons _ t, q => .cons q t
  | _, _, _, _, i + 1, .cons h t, q => .cons h (PRs.set i t q)
theorem PRs.ints : ∀ ns : List Int, PRs K I (ns.map V.int) (ns.map PyData.int)
  | [] => .nil
  | n :: r => .cons (.int n) (PRs.ints r)

mutual
theorem PR.canLay : ∀ {v : V} {d : PyData}, PR K I v d → d.canLay0 = true
  | _, _, .non => rfl
  | _, _, .bl _ => rfl
  | _, _, .int _ => rfl
  | _, _, .str _ h _ => h
  | _, _, .tup _ r => PRs.canLay r
  | _, _, .lst _ r => PRs.canLay r
theorem PRs.canLay : ∀ {vs : List V} {ds : List PyData}, PRs K I vs ds → PyData.canLayAll0 ds = true
  | _, _, .nil => rfl
  | _, _, .cons h t => by
    show (PyData.canLay0 _ && PyData.canLayAll0 _) = true
    rw [PR.canLay h, PRs.canLay t]
    rfl
end

mutual
theorem SR.there : ∀ {v : V} {r : S} {R : List Addr}, SR K I H v r R → ∀ a ∈ R, ∃ x, H a = some x
  | _, _, _, .val _, a, h => absurd h (by simp)
  | _, _, _, .scr _, a, h => absurd h (by simp)
  | _, _, _, .adr _, a, h => absurd h (by simp)
  | _, _, _, .lst e _, a, h => by
    rw [List.mem_singleton] at h
    subst h
    exact ⟨_, e⟩
  | _, _, _, .ins e1 e2 f _ _ _, a, h => by
    rcases List.mem_cons.mp h with rfl | h
    · exact ⟨_, e1⟩
    · rcases List.mem_cons.mp h with rfl | h
      · exact ⟨_, e2⟩
      · exact FRs.there f a h
theorem FRs.there : ∀ {vf : List (Str × V)} {fs : List (Str × S)} {R : List Addr}, FRs K I H vf fs R → ∀ a ∈ R, ∃ x, H a = some x
  | _, _, _, .nil, a, h => absurd h (by simp)
  | _, _, _, .cons r t _, a, h => by
    rcases List.mem_append.mp h with h | h
    · exact SR.there r a h
    · exact FRs.there t a h
end
mutual
theorem SR.keep (e : Sub I I') : ∀ {v : V} {r : S} {R : List Addr}, SR K I H v r R → (∀ a ∈ R, ∀ x, H a = some x → H' a = some x) → SR K I' H' v r R
  | _, _, _, .val p, _ => .val (p.sub e)
  | _, _, _, .scr h, k => .scr (SqL.sub e h)
  | _, _, _, .adr a, k => .adr a
  | _, _, _, .lst h p, k => .lst (k _ (by simp) _ h) (p.sub e)
  | _, _, _, .ins e1 e2 f n1 n2 n3, k => .ins (k _ (by simp) _ e1) (k _ (by simp) _ e2) (FRs.keep e f fun a h => k a (by simp [h])) n1 n2 n3
theorem FRs.keep (e : Sub I I') : ∀ {vf : List (Str × V)} {fs : List (Str × S)} {R : List Addr}, FRs K I H vf fs R → (∀ a ∈ R, ∀ x, H a = some x → H' a = some x) → FRs K I' H' vf fs R
  | _, _, _, .nil, _ => .nil
  | _, _, _, .cons r t d, k => .cons (SR.keep e r fun a h => k a (by simp [h])) (FRs.keep e t fun a h => k a (by simp [h])) d
end

theorem SR.val_inv {v : V} {d : PyData} {R : List Addr} (h : SR K I H v (.val d) R) : R = [] ∧ PR K I v d := by
  generalize e : S.val d = r at h
  cases h with
  | val p => cases e; exact ⟨rfl, p⟩
  | lst => cases e
  | scr => cases e
  | adr => cases e
  | ins => cases e
/-- the owned objects at R become immutable -/
def fz (I H : Hp) (R : List Addr) : Hp := fun a => if a ∈ R then H a else I a
theorem fz_sub {R : List Addr} (h : Sub I H) : Sub (fz I H R) H := fun a x e => by
  unfold fz at e
  split at e
  · exact e
  · exact h a x e
theorem sub_fz {R : List Addr} (n : ∀ a ∈ R, I a = none) : Sub I (fz I H R) := fun a x e => by
  unfold fz
  split
  · rename_i m
    rw [n a m] at e
    cases e
  · exact e
theorem fz_in {R : List Addr} {a : Addr} (h : a ∈ R) : fz I H R a = H a := if_pos h
theorem fz_out {R : List Addr} {a : Addr} (h : a ∉ R) : fz I H R a = I a := if_neg h
theorem SR.freeze {v : V} {r : S} {R : List Addr} {d : PyData} (h : SR K I H v r R) (e : r.toD = some d) (n : ∀ a ∈ R, I a = none) : PR K (fz I H R) v d := by
  cases h with
  | val p =>
    cases e
    exact p.sub (sub_fz n)
  | lst h p =>
    cases e
    refine .lst ?_ (p.sub (sub_fz n))
    rw [fz_in (by simp)]
    exact h
  | ins => cases e
  | scr => cases e
  | adr => cases e
end

section
variable {X : Cx} {pins : List (Addr × Obj)} {σ : L2.St} {H I : Hp} {s : Shared}
mutual
theorem PR.reads (J : Inv X pins σ H s) (sb : Sub I H) : ∀ {v : V} {d : PyData} {u : Value}, PR X.K I v d → RelV v u → ∃ as, Reads s.heap u d as
  | _, _, _, .non, r => by cases r; exact ⟨_, .none⟩
  | _, _, _, .bl b, r => by cases r; exact ⟨_, .bool b⟩
  | _, _, _, .int i, r => by obtain ⟨t, rfl⟩ := r; exact ⟨_, .int i t⟩
  | _, _, _, .str x _ _, r => by obtain ⟨t, rfl⟩ := r; exact ⟨_, .str x t⟩
  | _, _, _, .tup h p, r => by
    cases r
    obtain ⟨its, rv, ⟨o, e, c, n, dd⟩, _⟩ := J.tuple (SqT.sub sb h)
    obtain ⟨as, ra⟩ := PRs.reads J sb p rv
    exact ⟨_, .tuple e c dd (by simpa using ra)⟩
  | _, _, _, .lst h p, r => by
    cases r
    obtain ⟨its, rv, ⟨o, n, e, c, _, dd⟩, _⟩ := J.list (SqL.of (sb _ _ h))
    obtain ⟨as, ra⟩ := PRs.reads J sb p rv
    exact ⟨_, .list e c dd (by simpa using ra)⟩
theorem PRs.reads (J : Inv X pins σ H s) (sb : Sub I H) : ∀ {vs : List V} {ds : List PyData} {us : List Value}, PRs X.K I vs ds → Vals vs us → ∃ as, ReadsAll s.heap us ds as
  | _, _, _, .nil, r => by cases r; exact ⟨_, .nil⟩
  | _, _, _, .cons p t, r => by
    cases r with
    | cons r1 r2 =>
      obtain ⟨as, ra⟩ := PR.reads J sb p r1
      obtain ⟨bs, rb⟩ := PRs.reads J sb t r2
      exact ⟨_, .cons ra rb⟩
end
end
end SV
/-! SvB: a state of slots and what stands behind it; the judgements of expressions. -/
namespace SV
open PySem PySem.Spec PyProof.Rows L2

/-- the owned objects -/
def own (F : Nat → List Addr) : Addr → Prop := fun a => ∃ i, a ∈ F i

/-- the values of a def's arguments, by place -/
def arV (vs : List V) : Nat → Option V := fun i => vs[i]?
theorem arV_none {vs : List V} {i : Nat} (h : vs.length ≤ i) : arV vs i = none := List.getElem?_eq_none h
/-- a slot that is not to be stored -/
def prot (ar : Nat → Option V) (i : Nat) (v : V) : Nat → Option V := fun j => if j = i then some v else ar j
theorem prot_none {ar : Nat → Option V} {i j : Nat} {v : V} (h : j ≠ i) (n : ar j = none) : prot ar i v j = none := by
  unfold prot
  rw [if_neg h]
  exact n

structure Evo (I H : Hp) (o : Addr → Prop) (I' H' : Hp) (o' : Addr → Prop) : Prop where
  up : Sub I I'
  fr : ∀ a x, H a = some x → ¬ o a → H' a = some x
  nw : ∀ a, o' a → o a ∨ H a = none
  ni : ∀ a x, I' a = some x → I a = some x ∨ o a ∨ H a = none
theorem Evo.refl (I H : Hp) (o : Addr → Prop) : Evo I H o I H o := ⟨.refl I, fun _ _ h _ => h, fun _ h => .inl h, fun _ _ h => .inl h⟩
theorem Evo.back {I H I1 H1 : Hp} {o o1 : Addr → Prop} (E : Evo I H o I1 H1 o1) {a : Addr} (h : H1 a = none) : o a ∨ H a = none := by
  cases q : H a with
  | none => exact .inr rfl
  | some x =>
    by_cases c : o a
    · exact .inl c
    · rw [E.fr a x q c] at h
      cases h
theorem Evo.trans {I H I1 H1 I2 H2 : Hp} {o o1 p1 o2 o3 : Addr → Prop} (a : Evo I H o I1 H1 o1) (b : Evo I1 H1 p1 I2 H2 o2) (h1 : ∀ c, p1 c → o1 c) (h3 : ∀ c, o3 c → o1 c ∨ o2 c) : Evo I H o I2 H2 o3 where
  up := a.up.trans b.up
  fr := fun c x q n => by
    refine b.fr c x (a.fr c x q n) fun z => ?_
    rcases a.nw c (h1 c z) with z | z
    · exact n z
    · rw [q] at z
      cases z
  nw := fun c q => by
    rcases h3 c q with z | z
    · exact a.nw c z
    · rcases b.nw c z with z | z
      · exact a.nw c (h1 c z)
      · exact a.back z
  ni := fun c x q => by
    rcases b.ni c x q with z | z | z
    · exact a.ni c x z
    · exact .inr (a.nw c (h1 c z))
    · exact .inr (a.back z)

structure StR (K : PySem.W.Frag) (ar : Nat → Option V) (I H : Hp) (σ : L2.St) (σs : SSt) (F : Nat → List Addr) : Prop where
  sub : Sub I H
  rep : ∀ i r, gets σs i = some r → ∃ v, σ[i]? = some (some v) ∧ SR K I H v r (F i)
  non : ∀ i, gets σs i = none → F i = []
  dis : ∀ i j a, a ∈ F i → a ∈ F j → i = j
  notI : ∀ i, ∀ a ∈ F i, I a = none
  par : ∀ i v r, ar i = some v → gets σs i = some r → (∃ d, r = .val d) ∨ σ[i]? = some (some v)
  len : σs.length = σ.length

section
variable {K : PySem.W.Frag} {ar : Nat → Option V} {I H I' H' : Hp} {σ : L2.St} {σs : SSt} {F : Nat → List Addr}
theorem StR.there (h : StR K ar I H σ σs F) {a : Addr} (m : own F a) : ∃ x, H a = some x := by
  obtain ⟨i, m⟩ := m
  cases q : gets σs i with
  | none =>
    rw [h.non i q] at m
    cases m
  | some r =>
    obtain ⟨v, _, r⟩ := h.rep i r q
    exact r.there a m
theorem StR.ownI (h : StR K ar I H σ σs F) {a : Addr} (m : own F a) : I a = none := let ⟨i, m⟩ := m; h.notI i a m
/-- nothing of it is touched -/
theorem StR.keep (h : StR K ar I H σ σs F) (s : Sub I' H') (e : Sub I I') (k : ∀ a, own F a → ∀ x, H a = some x → H' a = some x) (n : ∀ a, own F a → I' a = none) : StR K ar I' H' σ σs F where
  sub := s
  rep := fun i r q => by
    obtain ⟨v, e1, r1⟩ := h.rep i r q
    exact ⟨v, e1, r1.keep e fun a m => k a ⟨i, m⟩⟩
  non := h.non
  dis := h.dis
  notI := fun i a m => n a ⟨i, m⟩
  par := h.par
  len := h.len
/-- the i-th slot without its objects -/
def drop1 (F : Nat → List Addr) (i : Nat) : Nat → List Addr := fun j => if j = i then [] else F j
theorem own_drop1 {i : Nat} {a : Addr} (m : own (drop1 F i) a) : own F a ∧ a ∉ F i ∨ own F a := by
  obtain ⟨j, m⟩ := m
  unfold drop1 at m
  split at m
  · cases m
  · exact .inr ⟨j, m⟩
theorem own_of_drop1 {i : Nat} {a : Addr} (m : own (drop1 F i) a) : own F a := by
  obtain ⟨j, m⟩ := m
  unfold drop1 at m
  split at m
  · cases m
  · exact ⟨j, m⟩
theorem drop1_not {i : Nat} {a : Addr} (h : StR K ar I H σ σs F) (m : own (drop1 F i) a) : a ∉ F i := by
  obtain ⟨j, m⟩ := m
  unfold drop1 at m
  split at m
  · cases m
  · rename_i ne
    exact fun z => ne (h.dis j i a m z)
/-- a slot is frozen -/
theorem StR.freeze (h : StR K ar I H σ σs F) {i : Nat} {r : S} {d : PyData} (q : gets σs i = some r) (e : r.toD = some d) :
    ∃ v, σ[i]? = some (some v) ∧ PR K (fz I H (F i)) v d ∧ StR K ar (fz I H (F i)) H σ (sets σs i (some (.val d))) (drop1 F i) ∧ Evo I H (own F) (fz I H (F i)) H (own (drop1 F i)) := by
  obtain ⟨v, e1, r1⟩ := h.rep i r q
  have n := h.notI i
  have p := r1.freeze e n
  refine ⟨v, e1, p, ⟨fz_sub h.sub, fun j r' q' => ?_, fun j q' => ?_, fun j k a m m' => ?_, fun j a m => ?_, fun j w r' ha q' => ?_, by rw [sets_length]; exact h.len⟩, ⟨sub_fz n, fun a x q _ => q, fun a m => .inl (own_of_drop1 m), fun a x q => ?_⟩⟩
  · by_cases hj : j = i
    · subst hj
      rw [gets_sets_same (gets_some_lt q)] at q'
      cases q'
      refine ⟨v, e1, ?_⟩
      unfold drop1
      rw [if_pos rfl]
      exact .val p
    · rw [gets_sets_ne hj] at q'
      obtain ⟨w, e2, r2⟩ := h.rep j r' q'
      refine ⟨w, e2, ?_⟩
      unfold drop1
      rw [if_neg hj]
      exact r2.keep (sub_fz n) fun _ _ _ z => z
  · by_cases hj : j = i
    · unfold drop1
      rw [if_pos hj]
    · unfold drop1
      rw [if_neg hj]
      rw [gets_sets_ne hj] at q'
      exact h.non j q'
  · unfold drop1 at m m'
    split at m
    · cases m
    · split at m'
      · cases m'
      · exact h.dis j k a m m'
  · have nm : a ∉ F i := drop1_not h ⟨j, m⟩
    rw [fz_out nm]
    exact h.ownI (own_of_drop1 ⟨j, m⟩)
  · by_cases hj : j = i
    · subst hj
      rw [gets_sets_same (gets_some_lt q)] at q'
      cases q'
      exact .inl ⟨d, rfl⟩
    · rw [gets_sets_ne hj] at q'
      exact h.par j w r' ha q'
  · unfold fz at q
    split at q
    · rename_i m
      exact .inr (.inl ⟨i, m⟩)
    · exact .inl q
/-- a slot is forgotten -/
theorem StR.forget (h : StR K ar I H σ σs F) (i : Nat) : StR K ar I H σ (sets σs i none) (drop1 F i) := by
  refine ⟨h.sub, fun j r' q' => ?_, fun j q' => ?_, fun j k a m m' => ?_, fun j a m => ?_, fun j w r' ha q' => ?_, by rw [sets_length]; exact h.len⟩
  · have hj : j ≠ i := fun e => by
      rw [e, gets_sets_none] at q'
      cases q'
    rw [gets_sets_ne hj] at q'
    obtain ⟨w, e2, r2⟩ := h.rep j r' q'
    refine ⟨w, e2, ?_⟩
    unfold drop1
    rw [if_neg hj]
    exact r2
  · by_cases hj : j = i
    · unfold drop1
      rw [if_pos hj]
    · unfold drop1
      rw [if_neg hj]
      rw [gets_sets_ne hj] at q'
      exact h.non j q'
  · unfold drop1 at m m'
    split at m
    · cases m
    · split at m'
      · cases m'
      · exact h.dis j k a m m'
  · exact h.ownI (own_of_drop1 ⟨j, m⟩)
  · have hj : j ≠ i := fun e => by
      rw [e, gets_sets_none] at q'
      cases q'
    rw [gets_sets_ne hj] at q'
    exact h.par j w r' ha q'
/-- a slot is stored: v, with its own objects R -/
def put1 (F : Nat → List Addr) (i : Nat) (R : List Addr) : Nat → List Addr := fun j => if j = i then R else F j
theorem own_put1 {i : Nat} {R : List Addr} {a : Addr} (m : own (put1 F i R) a) : a ∈ R ∨ own F a := by
  obtain ⟨j, m⟩ := m
  unfold put1 at m
  split at m
  · exact .inl m
  · exact .inr ⟨j, m⟩
theorem StR.store (h : StR K ar I H σ σs F) {i : Nat} {v : V} {r : S} {R : List Addr} (hi : i < σs.length) (q : SR K I H v r R) (nf : ∀ a ∈ R, ¬ own F a) (nI : ∀ a ∈ R, I a = none) (hp : (∃ d, r = .val d) ∨ ar i = none) :
    StR K ar I H (σ.set i (some v)) (sets σs i (some r)) (put1 F i R) := by
  refine ⟨h.sub, fun j r' q' => ?_, fun j q' => ?_, fun j k a m m' => ?_, fun j a m => ?_, fun j w r' ha q' => ?_, by rw [sets_length, List.length_set]; exact h.len⟩
  · by_cases hj : j = i
    · subst hj
      rw [gets_sets_same hi] at q'
      cases q'
      refine ⟨v, ?_, ?_⟩
      · rw [List.getElem?_set_self (by rw [← h.len]; exact hi)]
      · unfold put1
        rw [if_pos rfl]
        exact q
    · rw [gets_sets_ne hj] at q'
      obtain ⟨w, e2, r2⟩ := h.rep j r' q'
      refine ⟨w, by rw [List.getElem?_set_ne (Ne.symm hj)]; exact e2, ?_⟩
      unfold put1
      rw [if_neg hj]
      exact r2
  · have hj : j ≠ i := fun e => by
      rw [e, gets_sets_same hi] at q'
      cases q'
    unfold put1
    rw [if_neg hj]
    rw [gets_sets_ne hj] at q'
    exact h.non j q'
  · unfold put1 at m m'
    split at m
    · split at m'
      · rename_i e1 e2
        rw [e1, e2]
      · exact absurd ⟨k, m'⟩ (nf a m)
    · split at m'
      · exact absurd ⟨j, m⟩ (nf a m')
      · exact h.dis j k a m m'
  · unfold put1 at m
    split at m
    · exact nI a m
    · exact h.notI j a m
  · by_cases hj : j = i
    · subst hj
      rw [gets_sets_same hi] at q'
      cases q'
      rcases hp with z | z
      · exact .inl z
      · rw [z] at ha
        cases ha
    · rw [gets_sets_ne hj] at q'
      rcases h.par j w r' ha q' with z | z
      · exact .inl z
      · exact .inr (by rw [List.getElem?_set_ne (Ne.symm hj)]; exact z)
end

/-! ### exceptions -/
/-- an exception's own data -/
def ED (K : PySem.W.Frag) (I H : Hp) (d : Option Addr) (e : Option (List (Str × PyData))) : Prop :=
  match d, e with
  | none, none => True
  | some a, some fs => ∃ vf : List (Str × V), H a = some (.xd vf) ∧ vf.map (·.1) = fs.map (·.1) ∧ PRs K I (vf.map (·.2)) (fs.map (·.2))
  | _, _ => False
/-- what is wanted of an exception: its class, its data, the slots -/
abbrev XS := Value → Option (List (Str × PyData)) → SSt → Prop
def TX (X : Cx) (ar : Nat → Option V) (I H : Hp) (o : Addr → Prop) (ES : XS) : Prop :=
  ∃ W : WX, Takes X W ∧ ∀ cls d σ' I' H' F' σs' ed, Evo I H o I' H' (own F') → StR X.K ar I' H' σ' σs' F' → ED X.K I' H' d ed → ES cls ed σs' → W cls d σ' H'
theorem TX.none {X : Cx} {ar : Nat → Option V} {I H : Hp} {o : Addr → Prop} : TX X ar I H o (fun _ _ _ => False) := ⟨fun _ _ _ _ => False, takes0, fun _ _ _ _ _ _ _ _ _ _ _ z => z⟩
theorem TX.go {X : Cx} {ar : Nat → Option V} {I H I1 H1 : Hp} {o o1 p1 : Addr → Prop} {ES : XS} (t : TX X ar I H o ES) (a : Evo I H o I1 H1 o1) (h : ∀ c, p1 c → o1 c) : TX X ar I1 H1 p1 ES := by
  obtain ⟨W, tk, f⟩ := t
  exact ⟨W, tk, fun cls d σ' I' H' F' σs' ed b r e q => f cls d σ' I' H' F' σs' ed (a.trans b h fun c z => .inr z) r e q⟩

/-! ### the judgements -/
abbrev KS := S → SSt → Prop
abbrev TEs := SSt → KS → XS → Prop
abbrev TTs := SSt → (Bool → SSt → Prop) → XS → Prop
abbrev TAs := SSt → (List S → SSt → Prop) → XS → Prop

/-- behind an expression: the value v is r with its own objects R; the state has come to σs' -/
structure RPd (X : Cx) (ar : Nat → Option V) (pins : List (Addr × Obj)) (σ : L2.St) (b m : Bool) (I H : Hp) (F : Nat → List Addr) (σs : SSt) (v : V) (r : S) (R : List Addr) (I' H' : Hp) (F' : Nat → List Addr) (σs' : SSt) (s' : Shared) : Prop where
  inv : Inv X pins σ H' s'
  evo : Evo I H (own F) I' H' (fun a => a ∈ R ∨ own F' a)
  st : StR X.K ar I' H' σ σs' F'
  sr : SR X.K I' H' v r R
  nf : m = true → ∀ a ∈ R, ¬ own F' a
  nI : ∀ a ∈ R, I' a = none
  pu : b = true → σs' = σs ∧ F' = F ∧ (∀ a x, H a = some x → H' a = some x)
def RP (X : Cx) (ar : Nat → Option V) (pins : List (Addr × Obj)) (σ : L2.St) (b m : Bool) (I H : Hp) (F : Nat → List Addr) (σs : SSt) (Q : KS) (u : Value) (s' : Shared) : Prop :=
  ∃ v r R I' H' F' σs', RPd X ar pins σ b m I H F σs v r R I' H' F' σs' s' ∧ RelV v u ∧ Q r σs'

/-- b: the state and the heap's objects stay; m: the result is none of the slots' own -/
structure JE (X : Cx) (ar : Nat → Option V) (b m : Bool) (e : Expr) (t : TEs) : Prop where
  run : ∀ (pins : List (Addr × Obj)) (s : Shared) (σ : L2.St) (I H : Hp) (F : Nat → List Addr) (σs : SSt) (Q : KS) (ES : XS), Inv X pins σ H s → StR X.K ar I H σ σs F → TX X ar I H (own F) ES → t σs Q ES →
    wpAny (model X.prog X.w) X.A (eval e X.env) (RP X ar pins σ b m I H F σs Q) X.xe s

/-- behind a test -/
structure BPd (X : Cx) (ar : Nat → Option V) (pins : List (Addr × Obj)) (σ : L2.St) (b : Bool) (I H : Hp) (F : Nat → List Addr) (σs : SSt) (I' H' : Hp) (F' : Nat → List Addr) (σs' : SSt) (s' : Shared) : Prop where
  inv : Inv X pins σ H' s'
  evo : Evo I H (own F) I' H' (own F')
  st : StR X.K ar I' H' σ σs' F'
  pu : b = true → σs' = σs ∧ F' = F ∧ (∀ a x, H a = some x → H' a = some x)
def BP (X : Cx) (ar : Nat → Option V) (pins : List (Addr × Obj)) (σ : L2.St) (b : Bool) (I H : Hp) (F : Nat → List Addr) (σs : SSt) (Q : Bool → SSt → Prop) (c : Bool) (s' : Shared) : Prop :=
  ∃ I' H' F' σs', BPd X ar pins σ b I H F σs I' H' F' σs' s' ∧ Q c σs'
structure JT (X : Cx) (ar : Nat → Option V) (b : Bool) (e : Expr) (t : TTs) : Prop where
  run : ∀ (pins : List (Addr × Obj)) (s : Shared) (σ : L2.St) (I H : Hp) (F : Nat → List Addr) (σs : SSt) (Q : Bool → SSt → Prop) (ES : XS), Inv X pins σ H s → StR X.K ar I H σ σs F → TX X ar I H (own F) ES → t σs Q ES →
    wpAny (model X.prog X.w) X.A (isTrue e X.env (eval e X.env)) (BP X ar pins σ b I H F σs Q) X.xe s
/-- a test whatever its whole is -/
structure JW (X : Cx) (ar : Nat → Option V) (b : Bool) (e : Expr) (t : TTs) : Prop where
  run : ∀ (whole : Sem Value) (pins : List (Addr × Obj)) (s : Shared) (σ : L2.St) (I H : Hp) (F : Nat → List Addr) (σs : SSt) (Q : Bool → SSt → Prop) (ES : XS), Inv X pins σ H s → StR X.K ar I H σ σs F → TX X ar I H (own F) ES → t σs Q ES →
    wpAny (model X.prog X.w) X.A (isTrue e X.env whole) (BP X ar pins σ b I H F σs Q) X.xe s
theorem JW.jt {X : Cx} {ar : Nat → Option V} {b : Bool} {e : Expr} {t : TTs} (h : JW X ar b e t) : JT X ar b e t := ⟨h.run _⟩

section
variable {X : Cx} {ar : Nat → Option V} {pins : List (Addr × Obj)} {σ : L2.St} {I H : Hp} {F : Nat → List Addr} {σs : SSt} {s : Shared}
/-- nothing has changed, and a pure value stands there -/
theorem RP.val {b m : Bool} {Q : KS} {v : V} {u : Value} {d : PyData} (J : Inv X pins σ H s) (st : StR X.K ar I H σ σs F) (p : PR X.K I v d) (r : RelV v u) (q : Q (.val d) σs) : RP X ar pins σ b m I H F σs Q u s :=
  ⟨v, .val d, [], I, H, F, σs, ⟨J, ⟨.refl I, fun _ _ h _ => h, fun a h => by rcases h with h | h; cases h; exact .inl h, fun _ _ h => .inl h⟩, st, .val p, fun _ a m => absurd m (by simp), fun a m => absurd m (by simp), fun _ => ⟨rfl, rfl, fun _ _ h => h⟩⟩, r, q⟩
theorem BPd.refl {b : Bool} (J : Inv X pins σ H s) (st : StR X.K ar I H σ σs F) : BPd X ar pins σ b I H F σs I H F σs s :=
  ⟨J, .refl _ _ _, st, fun _ => ⟨rfl, rfl, fun _ _ h => h⟩⟩
end

/-- a need that is met -/
inductive need {α : Type} (o : Option α) (k : α → Prop) : Prop
  | mk (x : α) : o = some x → k x → need o k
abbrev nd {α : Type} (o : Option α) (k : α → Prop) : Prop := match o with
  | some x => k x
  | none => False
theorem nd_some {α : Type} {o : Option α} {k : α → Prop} (h : nd o k) : ∃ x, o = some x ∧ k x := by
  cases o with
  | none => exact h.elim
  | some x => exact ⟨x, rfl, h⟩
theorem need_of {α : Type} {o : Option α} {x : α} {k : α → Prop} (e : o = some x) (h : k x) : need o k := ⟨x, e, h⟩
theorem need_some {α : Type} {o : Option α} {k : α → Prop} (h : need o k) : ∃ x, o = some x ∧ k x := let ⟨x, e, q⟩ := h; ⟨x, e, q⟩

/-- the result's own objects become immutable -/
theorem RPd.freeze {X : Cx} {ar : Nat → Option V} {pins : List (Addr × Obj)} {σ : L2.St} {b : Bool} {I H I' H' : Hp} {F F' : Nat → List Addr} {σs σs' : SSt} {v : V} {r : S} {R : List Addr} {s' : Shared} {d : PyData}
    (h : RPd X ar pins σ b true I H F σs v r R I' H' F' σs' s') (e : r.toD = some d) : BPd X ar pins σ b I H F σs (fz I' H' R) H' F' σs' s' ∧ PR X.K (fz I' H' R) v d := by
  have n := h.nI
  refine ⟨⟨h.inv, ⟨h.evo.up.trans (sub_fz n), h.evo.fr, fun a m => h.evo.nw a (.inr m), fun a x q => ?_⟩, h.st.keep (fz_sub h.st.sub) (sub_fz n) (fun _ _ _ z => z) (fun a m => ?_), h.pu⟩, h.sr.freeze e n⟩
  · unfold fz at q
    split at q
    · rename_i m
      exact .inr (h.evo.nw a (.inl m))
    · exact h.evo.ni a x q
  · rw [fz_out fun z => h.nf rfl a z m]
    exact h.st.ownI m

/-- two steps in a row -/
theorem BPd.then {X : Cx} {ar : Nat → Option V} {pins : List (Addr × Obj)} {σ : L2.St} {b1 b2 : Bool} {I H I1 H1 I2 H2 : Hp} {F F1 F2 : Nat → List Addr} {σs σ1 σ2 : SSt} {s1 s2 : Shared}
    (a : BPd X ar pins σ b1 I H F σs I1 H1 F1 σ1 s1) (c : BPd X ar pins σ b2 I1 H1 F1 σ1 I2 H2 F2 σ2 s2) : BPd X ar pins σ (b1 && b2) I H F σs I2 H2 F2 σ2 s2 := by
  refine ⟨c.inv, a.evo.trans c.evo (fun _ z => z) (fun _ z => .inr z), c.st, fun hb => ?_⟩
  rw [Bool.and_eq_true] at hb
  obtain ⟨e1, e2, e3⟩ := a.pu hb.1
  obtain ⟨g1, g2, g3⟩ := c.pu hb.2
  exact ⟨g1.trans e1, g2.trans e2, fun a x q => g3 a x (e3 a x q)⟩
theorem BPd.thenR {X : Cx} {ar : Nat → Option V} {pins : List (Addr × Obj)} {σ : L2.St} {b1 b2 m : Bool} {I H I1 H1 I2 H2 : Hp} {F F1 F2 : Nat → List Addr} {σs σ1 σ2 : SSt} {s1 s2 : Shared} {v : V} {r : S} {R : List Addr}
    (a : BPd X ar pins σ b1 I H F σs I1 H1 F1 σ1 s1) (c : RPd X ar pins σ b2 m I1 H1 F1 σ1 v r R I2 H2 F2 σ2 s2) : RPd X ar pins σ (b1 && b2) m I H F σs v r R I2 H2 F2 σ2 s2 := by
  refine ⟨c.inv, a.evo.trans c.evo (fun _ z => z) (fun _ z => .inr z), c.st, c.sr, c.nf, c.nI, fun hb => ?_⟩
  rw [Bool.and_eq_true] at hb
  obtain ⟨e1, e2, e3⟩ := a.pu hb.1
  obtain ⟨g1, g2, g3⟩ := c.pu hb.2
  exact ⟨g1.trans e1, g2.trans e2, fun a x q => g3 a x (e3 a x q)⟩
theorem TX.then {X : Cx} {ar : Nat → Option V} {pins : List (Addr × Obj)} {σ : L2.St} {b1 : Bool} {I H I1 H1 : Hp} {F F1 : Nat → List Addr} {σs σ1 : SSt} {s1 : Shared} {ES : XS} (t : TX X ar I H (own F) ES)
    (a : BPd X ar pins σ b1 I H F σs I1 H1 F1 σ1 s1) : TX X ar I1 H1 (own F1) ES := t.go a.evo fun _ z => z

/-- the state behind an expression, its result dropped -/
theorem RPd.base {X : Cx} {ar : Nat → Option V} {pins : List (Addr × Obj)} {σ : L2.St} {b m : Bool} {I H I' H' : Hp} {F F' : Nat → List Addr} {σs σs' : SSt} {v : V} {r : S} {R : List Addr} {s' : Shared}
    (h : RPd X ar pins σ b m I H F σs v r R I' H' F' σs' s') : BPd X ar pins σ b I H F σs I' H' F' σs' s' :=
  ⟨h.inv, ⟨h.evo.up, h.evo.fr, fun a z => h.evo.nw a (.inr z), h.evo.ni⟩, h.st, h.pu⟩
/-- what was made ahead of a further step stands behind it -/
theorem RPd.over {X : Cx} {ar : Nat → Option V} {pins : List (Addr × Obj)} {σ : L2.St} {b1 b2 m : Bool} {I H I1 H1 I2 H2 : Hp} {F F1 F2 : Nat → List Addr} {σs σ1 σ2 : SSt} {v : V} {r : S} {R : List Addr} {s1 s2 : Shared}
    (h : RPd X ar pins σ b1 m I H F σs v r R I1 H1 F1 σ1 s1) (c : BPd X ar pins σ b2 I1 H1 F1 σ1 I2 H2 F2 σ2 s2) (hm : m = true ∨ b2 = true) :
    SR X.K I2 H2 v r R ∧ (∀ a ∈ R, I2 a = none) ∧ (m = true → ∀ a ∈ R, ¬ own F2 a) ∧ RPd X ar pins σ (b1 && b2) m I H F σs v r R I2 H2 F2 σ2 s2 := by
  have there := h.sr.there
  have k : ∀ a ∈ R, ∀ x, H1 a = some x → H2 a = some x := fun a z x q => by
    rcases hm with hm | hm
    · exact c.evo.fr a x q (h.nf hm a z)
    · exact (c.pu hm).2.2 a x q
  have n : ∀ a ∈ R, I2 a = none := fun a z => by
    cases e0 : I2 a with
    | none => rfl
    | some x =>
      rcases c.evo.ni a x e0 with e | e | e
      · rw [h.nI a z] at e
        cases e
      · rcases hm with hm | hm
        · exact absurd e (h.nf hm a z)
        · have e2 : own F2 a := by rw [(c.pu hm).2.1]; exact e
          have e3 := c.st.ownI e2
          rw [e0] at e3
          cases e3
      · obtain ⟨y, e2⟩ := there a z
        rw [e] at e2
        cases e2
  have nf : m = true → ∀ a ∈ R, ¬ own F2 a := fun hm a z q => by
    rcases c.evo.nw a q with q | q
    · exact h.nf hm a z q
    · obtain ⟨y, e2⟩ := there a z
      rw [q] at e2
      cases e2
  have b := h.base.then c
  have sr := h.sr.keep c.evo.up k
  refine ⟨sr, n, nf, b.inv, ⟨b.evo.up, b.evo.fr, fun a z => ?_, b.evo.ni⟩, b.st, sr, nf, n, b.pu⟩
  rcases z with z | z
  · exact h.evo.nw a (.inl z)
  · exact b.evo.nw a z
end SV
/-! SvC: operations on values. -/
namespace SV
open PySem PySem.Spec PyProof.Rows L2

/-- behind an operation on pure values: all that stood stands, the result is r, with its own new objects R -/
structure VPd (X : Cx) (I H : Hp) (v : V) (r : S) (R : List Addr) (I' H' : Hp) : Prop where
  up : Sub I I'
  sub : Sub I' H'
  grow : Sub H H'
  newR : ∀ a ∈ R, H a = none
  newI : ∀ a x, I' a = some x → I a = some x ∨ H a = none
  sr : SR X.K I' H' v r R
  nI : ∀ a ∈ R, I' a = none
def VP (X : Cx) (I H : Hp) (Q : S → Prop) : VK := fun v H' => ∃ r R I', VPd X I H v r R I' H' ∧ Q r
theorem upd_grow {H : Hp} {p : Addr} {o : HO} (h : H p = none) : Sub H (upd H p o) := fun a x q => by
  rw [upd_ne (ne_of_none q h)]
  exact q
theorem upd_sub {I H : Hp} {p : Addr} {o : HO} (s : Sub I H) : Sub (upd I p o) (upd H p o) := fun a x q => by
  unfold upd at q ⊢
  split at q
  · rename_i e
    rw [if_pos e]
    exact q
  · rename_i e
    rw [if_neg e]
    exact s a x q
theorem sub_none {I H : Hp} {p : Addr} (s : Sub I H) (h : H p = none) : I p = none := by
  cases e : I p with
  | none => rfl
  | some x =>
    rw [s p x e] at h
    cases h
section
variable {X : Cx} {I H : Hp} {Q : S → Prop} {v : V} {d : PyData} {p : Addr} {vs : List V} {ds : List PyData}
theorem VP.val (s : Sub I H) (h : PR X.K I v d) (q : Q (.val d)) : VP X I H Q v H :=
  ⟨.val d, [], I, ⟨.refl I, s, .refl H, fun _ m => absurd m (by simp), fun _ _ h => .inl h, .val h, fun _ m => absurd m (by simp)⟩, q⟩
theorem VP.newTup (s : Sub I H) (hp : H p = none) (h : PRs X.K I vs ds) (q : Q (.val (.tuple ds))) : VP X I H Q (.ref p) (upd H p (.tup vs)) :=
  ⟨_, [], upd I p (.tup vs), ⟨upd_grow (sub_none s hp), upd_sub s, upd_grow hp, fun _ m => absurd m (by simp), fun a x q => by
    by_cases e : a = p
    · subst e; exact .inr hp
    · rw [upd_ne e] at q; exact .inl q, .val (.tup (SqT.of upd_same) (h.sub (upd_grow (sub_none s hp)))), fun _ m => absurd m (by simp)⟩, q⟩
theorem VP.newLst (s : Sub I H) (hp : H p = none) (h : PRs X.K I vs ds) (q : Q (.lst ds)) : VP X I H Q (.ref p) (upd H p (.lst vs)) :=
  ⟨_, [p], I, ⟨.refl I, s.trans (upd_grow hp), upd_grow hp, fun a m => by
    rw [List.mem_singleton] at m
    subst m
    exact hp, fun _ _ h => .inl h, .lst upd_same h, fun a m => by
    rw [List.mem_singleton] at m
    subst m
    exact sub_none s hp⟩, q⟩
end
/-- data to be read: pure, or an owned list -/
inductive AR (K : PySem.W.Frag) (I H : Hp) : V → PyData → Prop
  | non : AR K I H .non .none
  | bl (b : Bool) : AR K I H (.bl b) (.bool b)
  | int (i : Int) : AR K I H (.int i) (.int i)
  | str (x : Str) : PyData.strOk x = true → x.length ≤ sizeLine → AR K I H (.str x) (.str x)
  | tup {a : Addr} {vs : List V} {ds : List PyData} : SqT K I a vs → PRs K I vs ds → AR K I H (.ref a) (.tuple ds)
  | lst {a : Addr} {vs : List V} {ds : List PyData} : H a = some (.lst vs) → PRs K I vs ds → AR K I H (.ref a) (.list ds)
theorem PR.ar {K : PySem.W.Frag} {I H : Hp} {v : V} {d : PyData} (sb : Sub I H) (p : PR K I v d) : AR K I H v d := by
  cases p with
  | non => exact .non
  | bl b => exact .bl b
  | int i => exact .int i
  | str x h z => exact .str x h z
  | tup h p => exact .tup h p
  | lst h p => exact .lst (sb _ _ h) p
theorem SR.ar {K : PySem.W.Frag} {I H : Hp} {v : V} {r : S} {R : List Addr} {d : PyData} (sb : Sub I H) (h : SR K I H v r R) (e : r.toD = some d) : AR K I H v d := by
  cases h with
  | val p => cases e; exact p.ar sb
  | lst h p => cases e; exact .lst h p
  | ins => cases e
  | scr => cases e
  | adr => cases e
inductive ARs (K : PySem.W.Frag) (I H : Hp) : List V → List PyData → Prop
  | nil : ARs K I H [] []
  | cons {v : V} {d : PyData} {vs : List V} {ds : List PyData} : AR K I H v d → ARs K I H vs ds → ARs K I H (v :: vs) (d :: ds)
theorem AR.canLay {K : PySem.W.Frag} {I H : Hp} {v : V} {d : PyData} (h : AR K I H v d) : d.canLay0 = true := by
  cases h with
  | non => rfl
  | bl b => rfl
  | int i => rfl
  | str x h z => exact h
  | tup h p => exact p.canLay
  | lst h p => exact p.canLay
theorem AR.reads {X : Cx} {pins : List (Addr × Obj)} {σ : L2.St} {H I : Hp} {s : Shared} {v : V} {d : PyData} {u : Value} (J : Inv X pins σ H s) (sb : Sub I H) (h : AR X.K I H v d) (r : RelV v u) : ∃ as, Reads s.heap u d as := by
  cases h with
  | non => exact PR.reads J sb .non r
  | bl b => exact PR.reads J sb (.bl b) r
  | int i => exact PR.reads J sb (.int i) r
  | str x h z => exact PR.reads J sb (.str x h z) r
  | tup h p => exact PR.reads J sb (.tup h p) r
  | lst h p =>
    cases r
    obtain ⟨its, rv, ⟨o, n, e, c, _, dd⟩, _⟩ := J.list (SqL.of h)
    obtain ⟨as, ra⟩ := PRs.reads J sb p rv
    exact ⟨_, .list e c dd (by simpa using ra)⟩
theorem RP.of_vp {X : Cx} {ar : Nat → Option V} {pins : List (Addr × Obj)} {σ : L2.St} {b : Bool} {I H I1 H1 : Hp} {F F1 : Nat → List Addr} {σs σ1 : SSt} {s1 s' : Shared} {Q : KS} {u : Value}
    (a : BPd X ar pins σ b I H F σs I1 H1 F1 σ1 s1) (h : EP X pins σ (VP X I1 H1 fun r => Q r σ1) u s') : RP X ar pins σ b true I H F σs Q u s' := by
  obtain ⟨v, H', J, rv, r, R, I', d, q⟩ := h
  have nf : ∀ c ∈ R, ¬ own F1 c := fun c m z => by
    obtain ⟨x, e⟩ := a.st.there z
    rw [d.newR c m] at e
    cases e
  refine ⟨v, r, R, I', H', F1, σ1, ⟨J, ⟨a.evo.up.trans d.up, fun c x q n => d.grow c x (a.evo.fr c x q n), fun c m => ?_, fun c x q => ?_⟩, a.st.keep d.sub d.up (fun c _ x q => d.grow c x q) (fun c m => ?_), d.sr, fun _ => nf, d.nI, fun hb => ?_⟩, rv, q⟩
  · rcases m with m | m
    · exact a.evo.back (d.newR c m)
    · exact a.evo.nw c m
  · rcases d.newI c x q with q | q
    · exact a.evo.ni c x q
    · exact .inr (a.evo.back q)
  · cases e : I' c with
    | none => rfl
    | some x =>
      rcases d.newI c x e with e | e
      · rw [a.st.ownI m] at e
        cases e
      · obtain ⟨y, e2⟩ := a.st.there m
        rw [e] at e2
        cases e2
  · obtain ⟨e1, e2, e3⟩ := a.pu hb
    exact ⟨e1, e2, fun c x q => d.grow c x (e3 c x q)⟩

abbrev R1s := PyData → (S → Prop) → Prop
abbrev R2s := PyData → PyData → (S → Prop) → Prop
abbrev RNs := List PyData → (S → Prop) → Prop
def Op1 (X : Cx) (f : Value → Sem Value) (r : R1s) : Prop :=
  ∀ (pins : List (Addr × Obj)) (s : Shared) (σ : L2.St) (H I : Hp) (x : V) (v : Value) (d : PyData) (Q : S → Prop), Inv X pins σ H s → Sub I H → RelV x v → AR X.K I H x d → r d Q →
    wpAny (model X.prog X.w) X.A (f v) (EP X pins σ (VP X I H Q)) X.xe s
def Op2 (X : Cx) (f : Value → Value → Sem Value) (r : R2s) : Prop :=
  ∀ (pins : List (Addr × Obj)) (s : Shared) (σ : L2.St) (H I : Hp) (x y : V) (v u : Value) (d e : PyData) (Q : S → Prop), Inv X pins σ H s → Sub I H → RelV x v → RelV y u → AR X.K I H x d → AR X.K I H y e → r d e Q →
    wpAny (model X.prog X.w) X.A (f v u) (EP X pins σ (VP X I H Q)) X.xe s
def OpN (X : Cx) (f : List Value → Sem Value) (r : RNs) : Prop :=
  ∀ (pins : List (Addr × Obj)) (s : Shared) (σ : L2.St) (H I : Hp) (xs : List V) (us : List Value) (ds : List PyData) (Q : S → Prop), Inv X pins σ H s → Sub I H → Vals xs us → ARs X.K I H xs ds → r ds Q →
    wpAny (model X.prog X.w) X.A (f us) (EP X pins σ (VP X I H Q)) X.xe s

/-! ### arithmetic -/
def rAdd : R2s
  | .int i, .int j, Q => Q (.val (.int (i + j)))
  | .str x, .str y, Q => x.length + y.length ≤ sizeLine ∧ Q (.val (.str (x ++ y)))
  | .list xs, .list ys, Q => xs.length + ys.length ≤ sizeLine ∧ Q (.lst (xs ++ ys))
  | .tuple xs, .tuple ys, Q => xs.length + ys.length ≤ sizeLine ∧ Q (.val (.tuple (xs ++ ys)))
  | _, _, _ => False
theorem strOk_append {x y : Str} (hx : PyData.strOk x = true) (hy : PyData.strOk y = true) : PyData.strOk (x ++ y) = true := by
  show (x.cps ++ y.cps).all _ = true
  rw [Array.all_append]
  exact (Bool.and_eq_true _ _).mpr ⟨hx, hy⟩
theorem str_append_length (x y : Str) : (x ++ y).length = x.length + y.length := by
  show (x.cps ++ y.cps).size = x.cps.size + y.cps.size
  rw [Array.size_append]
section
variable {X : Cx}
theorem o_add : Op2 X (binaryOp .Add) rAdd := by
  intro pins s σ H I x y v u d e Q J sb rx ry px py q
  cases px with
  | int i =>
    cases py with
    | int j => exact op_add pins s σ H _ _ v u _ J rx ry ⟨i, j, rfl, rfl, .val sb (.int _) q⟩
    | _ => exact q.elim
  | str a ha za =>
    cases py with
    | str b hb zb =>
      obtain ⟨hz, q⟩ := q
      exact op_add_str pins s σ H _ _ v u _ J rx ry ⟨a, b, rfl, rfl, hz, .val sb (.str _ (strOk_append ha hb) (by rw [str_append_length]; exact hz)) q⟩
    | _ => exact q.elim
  | lst h p =>
    cases py with
    | lst h' p' =>
      obtain ⟨hz, q⟩ := q
      exact op_cat pins s σ H _ _ v u _ J rx ry ⟨_, _, _, _, rfl, rfl, h, h', by rw [p.length, p'.length]; exact hz, fun a ha => .newLst sb ha (p.append p') q⟩
    | _ => exact q.elim
  | tup h p =>
    cases py with
    | tup h' p' =>
      obtain ⟨hz, q⟩ := q
      refine op_catA pins s σ H _ _ v u _ J rx ry ⟨_, _, _, _, rfl, rfl, SqT.sub sb h, SqT.sub sb h', by rw [p.length, p'.length]; exact hz, fun e => ?_, fun _ e => ?_, fun _ _ a ha => .newTup sb ha (p.append p') q⟩
      · subst e
        cases p
        exact .val sb (.tup h' p') (by simpa using q)
      · subst e
        cases p'
        exact .val sb (.tup h p) (by simpa using q)
    | _ => exact q.elim
  | _ => exact q.elim
def rSub : R2s
  | .int i, .int j, Q => Q (.val (.int (i - j)))
  | _, _, _ => False
theorem o_sub : Op2 X (binaryOp .Sub) rSub := by
  intro pins s σ H I x y v u d e Q J sb rx ry px py q
  cases px with
  | int i =>
    cases py with
    | int j => exact op_sub pins s σ H _ _ v u _ J rx ry ⟨i, j, rfl, rfl, .val sb (.int _) q⟩
    | _ => exact q.elim
  | _ => exact q.elim
def rMod : R2s
  | .int i, .int j, Q => 0 < j ∧ Q (.val (.int (i % j)))
  | _, _, _ => False
theorem o_mod : Op2 X (binaryOp .Mod) rMod := by
  intro pins s σ H I x y v u d e Q J sb rx ry px py q
  cases px with
  | int i =>
    cases py with
    | int j => exact op_mod pins s σ H _ _ v u _ J rx ry ⟨i, j, rfl, rfl, q.1, .val sb (.int _) q.2⟩
    | _ => exact q.elim
  | _ => exact q.elim
def rFdiv : R2s
  | .int i, .int j, Q => CDiv i j ∧ Q (.val (.int (i / j)))
  | _, _, _ => False
theorem o_fdiv : Op2 X (binaryOp .FloorDiv) rFdiv := by
  intro pins s σ H I x y v u d e Q J sb rx ry px py q
  cases px with
  | int i =>
    cases py with
    | int j => exact op_fdiv pins s σ H _ _ v u _ J rx ry ⟨i, j, rfl, rfl, q.1, .val sb (.int _) q.2⟩
    | _ => exact q.elim
  | _ => exact q.elim
def rMul : R2s
  | .int i, .int j, Q => CMul i j ∧ Q (.val (.int (i * j)))
  | .list xs, .int k, Q => (-(2 ^ 63) ≤ k ∧ k < 2 ^ 63 ∧ xs.length * k.toNat ≤ sizeLine) ∧ Q (.lst (List.replicate k.toNat xs).flatten)
  | .tuple xs, .int k, Q => (xs ≠ [] ∧ 2 ≤ k ∧ k ≤ 1000 ∧ xs.length ≤ 1000) ∧ Q (.val (.tuple (List.replicate k.toNat xs).flatten))
  | _, _, _ => False
theorem PRs.rep {K : PySem.W.Frag} {I : Hp} {vs : List V} {ds : List PyData} (p : PRs K I vs ds) : ∀ n : Nat, PRs K I (List.replicate n vs).flatten (List.replicate n ds).flatten
  | 0 => .nil
  | n + 1 => by
    rw [List.replicate_succ, List.replicate_succ, List.flatten_cons, List.flatten_cons]
    exact p.append (PRs.rep p n)
theorem PRs.ne_nil {K : PySem.W.Frag} {I : Hp} {vs : List V} {ds : List PyData} (p : PRs K I vs ds) (h : ds ≠ []) : vs ≠ [] := fun e => by
  subst e
  cases p
  exact h rfl
theorem o_mul : Op2 X (binaryOp .Mult) rMul := by
  intro pins s σ H I x y v u d e Q J sb rx ry px py q
  cases px with
  | int i =>
    cases py with
    | int j => exact op_mul pins s σ H _ _ v u _ J rx ry ⟨i, j, rfl, rfl, q.1, .val sb (.int _) q.2⟩
    | _ => exact q.elim
  | lst h p =>
    cases py with
    | int k =>
      obtain ⟨⟨h1, h2, h3⟩, q⟩ := q
      exact op_rep pins s σ H _ _ v u _ J rx ry ⟨_, k, _, rfl, rfl, h, h1, h2, by rw [p.length]; exact h3, fun a ha => .newLst sb ha (p.rep _) q⟩
    | _ => exact q.elim
  | tup h p =>
    cases py with
    | int k =>
      obtain ⟨⟨h1, h2, h3, h4⟩, q⟩ := q
      exact op_repT pins s σ H _ _ v u _ J rx ry ⟨_, k, _, rfl, rfl, SqT.sub sb h, p.ne_nil h1, h2, h3, by rw [p.length]; exact h4, fun a ha => .newTup sb ha (p.rep _) q⟩
    | _ => exact q.elim
  | _ => exact q.elim
def rPow : R2s
  | .int i, .int j, Q => CPow i j ∧ Q (.val (.int (i ^ j.toNat)))
  | _, _, _ => False
theorem o_pow : Op2 X (binaryOp .Pow) rPow := by
  intro pins s σ H I x y v u d e Q J sb rx ry px py q
  cases px with
  | int i =>
    cases py with
    | int j => exact op_pow pins s σ H _ _ v u _ J rx ry ⟨i, j, rfl, rfl, q.1, .val sb (.int _) q.2⟩
    | _ => exact q.elim
  | _ => exact q.elim
def rNeg : R1s
  | .int i, Q => Q (.val (.int (-i)))
  | _, _ => False
theorem o_neg : Op1 X (unaryOp .USub) rNeg := by
  intro pins s σ H I x v d Q J sb rx px q
  cases px with
  | int i => exact un_neg pins s σ H _ v _ J rx ⟨i, rfl, .val sb (.int _) q⟩
  | _ => exact q.elim

/-! ### comparisons -/
def rEq : R2s := fun d e Q => (d.depth ≤ 64 ∧ e.depth ≤ 64) ∧ Q (.val (.bool (PyData.eqv d e)))
def rNe : R2s := fun d e Q => (d.depth ≤ 64 ∧ e.depth ≤ 64) ∧ Q (.val (.bool (!PyData.eqv d e)))
theorem shaped_of {d : PyData} (h : d.canLay0 = true) (z : d.depth ≤ 64) : SeqAt.shaped d = true := by
  unfold SeqAt.shaped
  rw [h, decide_eq_true z]
  rfl
theorem o_eq (hu : X.A.units + 64 < cLine) : Op2 X (compareOp .Eq) rEq := by
  intro pins s σ H I x y v u d e Q J sb rx ry px py q
  obtain ⟨as, r1⟩ := px.reads J sb rx
  obtain ⟨bs, r2⟩ := py.reads J sb ry
  exact eq_dataH r1 r2 (shaped_of px.canLay q.1.1) (shaped_of py.canLay q.1.2) hu ⟨.bl _, H, J, rfl, .val sb (.bl _) q.2⟩
theorem o_ne (hu : X.A.units + 64 < cLine) : Op2 X (compareOp .NotEq) rNe := by
  intro pins s σ H I x y v u d e Q J sb rx ry px py q
  obtain ⟨as, r1⟩ := px.reads J sb rx
  obtain ⟨bs, r2⟩ := py.reads J sb ry
  exact ne_dataH r1 r2 (shaped_of px.canLay q.1.1) (shaped_of py.canLay q.1.2) hu ⟨.bl _, H, J, rfl, .val sb (.bl _) q.2⟩
def rLt : R2s
  | .int i, .int j, Q => Q (.val (.bool (decide (i < j))))
  | .str x, .str y, Q => Q (.val (.bool (decide (x.cps.toList < y.cps.toList))))
  | _, _, _ => False
def rLe : R2s
  | .int i, .int j, Q => Q (.val (.bool (decide (i ≤ j))))
  | .str x, .str y, Q => Q (.val (.bool (!decide (y.cps.toList < x.cps.toList))))
  | _, _, _ => False
def rGt : R2s
  | .int i, .int j, Q => Q (.val (.bool (decide (j < i))))
  | .str x, .str y, Q => Q (.val (.bool (decide (y.cps.toList < x.cps.toList))))
  | _, _, _ => False
def rGe : R2s
  | .int i, .int j, Q => Q (.val (.bool (decide (j ≤ i))))
  | .str x, .str y, Q => Q (.val (.bool (!decide (x.cps.toList < y.cps.toList))))
  | _, _, _ => False
theorem o_lt : Op2 X (compareOp .Lt) rLt := by
  intro pins s σ H I x y v u d e Q J sb rx ry px py q
  cases px with
  | int i =>
    cases py with
    | int j => exact op_lt pins s σ H _ _ v u _ J rx ry ⟨i, j, rfl, rfl, .val sb (.bl _) q⟩
    | _ => exact q.elim
  | str a _ _ =>
    cases py with
    | str b _ _ => exact op_lt_str pins s σ H _ _ v u _ J rx ry ⟨a, b, rfl, rfl, .val sb (.bl _) q⟩
    | _ => exact q.elim
  | _ => exact q.elim
theorem o_le : Op2 X (compareOp .LtE) rLe := by
  intro pins s σ H I x y v u d e Q J sb rx ry px py q
  cases px with
  | int i =>
    cases py with
    | int j => exact op_le pins s σ H _ _ v u _ J rx ry ⟨i, j, rfl, rfl, .val sb (.bl _) q⟩
    | _ => exact q.elim
  | str a _ _ =>
    cases py with
    | str b _ _ => exact op_le_str pins s σ H _ _ v u _ J rx ry ⟨a, b, rfl, rfl, .val sb (.bl _) q⟩
    | _ => exact q.elim
  | _ => exact q.elim
theorem o_gt : Op2 X (compareOp .Gt) rGt := by
  intro pins s σ H I x y v u d e Q J sb rx ry px py q
  cases px with
  | int i =>
    cases py with
    | int j => exact op_gt pins s σ H _ _ v u _ J rx ry ⟨i, j, rfl, rfl, .val sb (.bl _) q⟩
    | _ => exact q.elim
  | str a _ _ =>
    cases py with
    | str b _ _ => exact op_gt_str pins s σ H _ _ v u _ J rx ry ⟨a, b, rfl, rfl, .val sb (.bl _) q⟩
    | _ => exact q.elim
  | _ => exact q.elim
theorem o_ge : Op2 X (compareOp .GtE) rGe := by
  intro pins s σ H I x y v u d e Q J sb rx ry px py q
  cases px with
  | int i =>
    cases py with
    | int j => exact op_ge pins s σ H _ _ v u _ J rx ry ⟨i, j, rfl, rfl, .val sb (.bl _) q⟩
    | _ => exact q.elim
  | str a _ _ =>
    cases py with
    | str b _ _ => exact op_ge_str pins s σ H _ _ v u _ J rx ry ⟨a, b, rfl, rfl, .val sb (.bl _) q⟩
    | _ => exact q.elim
  | _ => exact q.elim
def inD (d : PyData) (xs : List PyData) : Bool := xs.any fun z => PyData.eqv z d
def rIn : R2s
  | d, .list xs, Q => d.depth ≤ 64 ∧ Q (.val (.bool (inD d xs)))
  | d, .tuple xs, Q => d.depth ≤ 64 ∧ Q (.val (.bool (inD d xs)))
  | .str x, .str y, Q => Q (.val (.bool (!(Builtin.Str.occurrences y x 0 y.length 1).isEmpty)))
  | _, _, _ => False
def rNotIn : R2s
  | d, .list xs, Q => d.depth ≤ 64 ∧ Q (.val (.bool (!inD d xs)))
  | d, .tuple xs, Q => d.depth ≤ 64 ∧ Q (.val (.bool (!inD d xs)))
  | .str x, .str y, Q => Q (.val (.bool (!(!(Builtin.Str.occurrences y x 0 y.length 1).isEmpty))))
  | _, _, _ => False
theorem o_in (hu : X.A.units + 65 < cLine) : Op2 X (compareOp .In) rIn := by
  intro pins s σ H I x y v u d e Q J sb rx ry px py q
  cases py with
  | @lst a0 vs0 ds0 h p =>
    obtain ⟨as, r1⟩ := px.reads J sb rx
    obtain ⟨bs, r2⟩ := (AR.lst h p).reads J sb ry
    have hq : d.depth ≤ 64 ∧ Q (.val (.bool (inD d ds0))) := by cases d <;> exact q
    exact SeqAt.in_list_reads r2 r1 (AR.lst (I := I) (H := H) h p).canLay px.canLay (room_in_shaped (shaped_of px.canLay hq.1) hu) ⟨.bl _, H, J, rfl, .val sb (.bl _) hq.2⟩
  | @tup a0 vs0 ds0 h p =>
    obtain ⟨as, r1⟩ := px.reads J sb rx
    obtain ⟨bs, r2⟩ := (AR.tup h p).reads J sb ry
    have hq : d.depth ≤ 64 ∧ Q (.val (.bool (inD d ds0))) := by cases d <;> exact q
    exact SeqAt.in_tuple_reads r2 r1 (AR.tup (H := H) h p).canLay px.canLay (room_in_shaped (shaped_of px.canLay hq.1) hu) ⟨.bl _, H, J, rfl, .val sb (.bl _) hq.2⟩
  | str b _ _ =>
    cases px with
    | str a _ _ => exact op_in_str pins s σ H _ _ v u _ J rx ry ⟨a, b, rfl, rfl, .val sb (.bl _) q⟩
    | _ => exact q.elim
  | _ => cases px <;> exact q.elim
theorem o_notIn (hu : X.A.units + 65 < cLine) : Op2 X (compareOp .NotIn) rNotIn := by
  intro pins s σ H I x y v u d e Q J sb rx ry px py q
  cases py with
  | @lst a0 vs0 ds0 h p =>
    obtain ⟨as, r1⟩ := px.reads J sb rx
    obtain ⟨bs, r2⟩ := (AR.lst h p).reads J sb ry
    have hq : d.depth ≤ 64 ∧ Q (.val (.bool (!inD d ds0))) := by cases d <;> exact q
    exact SeqAt.notIn_list_reads r2 r1 (AR.lst (I := I) (H := H) h p).canLay px.canLay (room_in_shaped (shaped_of px.canLay hq.1) hu) ⟨.bl _, H, J, rfl, .val sb (.bl _) hq.2⟩
  | @tup a0 vs0 ds0 h p =>
    obtain ⟨as, r1⟩ := px.reads J sb rx
    obtain ⟨bs, r2⟩ := (AR.tup h p).reads J sb ry
    have hq : d.depth ≤ 64 ∧ Q (.val (.bool (!inD d ds0))) := by cases d <;> exact q
    exact SeqAt.notIn_tuple_reads r2 r1 (AR.tup (H := H) h p).canLay px.canLay (room_in_shaped (shaped_of px.canLay hq.1) hu) ⟨.bl _, H, J, rfl, .val sb (.bl _) hq.2⟩
  | str b _ _ =>
    cases px with
    | str a _ _ => exact L2.op_notIn_str pins s σ H _ _ v u _ J rx ry ⟨a, b, rfl, rfl, .val sb (.bl _) q⟩
    | _ => exact q.elim
  | _ => cases px <;> exact q.elim
def isNo : PyData → Bool
  | .none => true
  | _ => false
def rIs : R2s := fun d e Q => e = .none ∧ Q (.val (.bool (isNo d)))
def rIsNot : R2s := fun d e Q => e = .none ∧ Q (.val (.bool (!isNo d)))
theorem AR.isNo {K : PySem.W.Frag} {I H : Hp} {v : V} {d : PyData} (p : AR K I H v d) : decide (v = .non) = isNo d := by
  cases p <;> rfl
theorem o_is : Op2 X (compareOp .Is) rIs := by
  intro pins s σ H I x y v u d e Q J sb rx ry px py q
  obtain ⟨rfl, q⟩ := q
  cases py
  exact op_isN pins s σ H x _ v u _ J rx ry ⟨rfl, by rw [px.isNo]; exact .val sb (.bl _) q⟩
theorem o_isNot : Op2 X (compareOp .IsNot) rIsNot := by
  intro pins s σ H I x y v u d e Q J sb rx ry px py q
  obtain ⟨rfl, q⟩ := q
  cases py
  exact op_notN pins s σ H x _ v u _ J rx ry ⟨rfl, by rw [px.isNo]; exact .val sb (.bl _) q⟩

/-! ### truth -/
def tru : PyData → Bool
  | .none => false
  | .bool b => b
  | .int i => i != 0
  | .str x => (x.length : Int) != 0
  | .list xs => !xs.isEmpty
  | .tuple xs => !xs.isEmpty
  | .dict xs => !xs.isEmpty
theorem PRs.isEmpty {K : PySem.W.Frag} {I : Hp} {vs : List V} {ds : List PyData} (p : PRs K I vs ds) : vs.isEmpty = ds.isEmpty := by
  cases p <;> rfl
theorem AR.tru {K : PySem.W.Frag} {I H : Hp} {v : V} {d : PyData} (sb : Sub I H) (p : AR K I H v d) : TruV K v H (tru d) := by
  cases p with
  | non => rfl
  | bl b => rfl
  | int i => rfl
  | str x _ z => exact ⟨z, rfl⟩
  | tup h p => exact .inr (.inl ⟨_, SqT.sub sb h, by rw [p.isEmpty]; rfl⟩)
  | lst h p => exact .inl ⟨_, SqL.of h, by rw [p.isEmpty]; rfl⟩

/-! ### items and slices -/
def rIx : R2s
  | .list xs, .int i, Q => need (atI xs i) fun d => Q (.val d)
  | .tuple xs, .int i, Q => need (atI xs i) fun d => Q (.val d)
  | .str x, .int i, Q => need (atI x.cps.toList i) fun c => Q (.val (.str ⟨#[c]⟩))
  | _, _, _ => False
theorem atI_rel {K : PySem.W.Frag} {I : Hp} {vs : List V} {ds : List PyData} {i : Int} {d : PyData} (p : PRs K I vs ds) (h : atI ds i = some d) : ∃ v, atI vs i = some v ∧ PR K I v d := by
  unfold atI at h ⊢
  rw [p.length]
  cases e : ixN ds.length i with
  | none =>
    rw [e] at h
    cases h
  | some j =>
    rw [e] at h
    obtain ⟨v, h1, h2⟩ := p.get h
    exact ⟨v, h1, h2⟩
theorem strOk_at {x : Str} {i : Int} {c : Nat} (h : PyData.strOk x = true) (e : atI x.cps.toList i = some c) : PyData.strOk ⟨#[c]⟩ = true := by
  obtain ⟨j, _, h2, _⟩ := atI_get e
  have hm : c ∈ x.cps := by
    have := List.mem_of_getElem? h2
    simpa using this
  have := (Array.all_eq_true_iff_forall_mem.mp h) c hm
  show (#[c] : Array Nat).all _ = true
  simpa using this
theorem sizeLine_pos : 1 ≤ sizeLine := by rw [sizeLine_eq]; decide
/-- a[b] -/
def IxOp (X : Cx) (r : R2s) : Prop :=
  ∀ (value slice : Expr) (pins : List (Addr × Obj)) (s : Shared) (σ : L2.St) (H I : Hp) (x y : V) (v u : Value) (d e : PyData) (Q : S → Prop), Inv X pins σ H s → Sub I H → RelV x v → RelV y u → AR X.K I H x d → AR X.K I H y e → r d e Q → PlainIx slice →
    wpAny (model X.prog X.w) X.A (subscriptTail value slice v u) (EP X pins σ (VP X I H Q)) X.xe s
theorem o_ix : IxOp X rIx := by
  intro value slice pins s σ H I x y v u d e Q J sb rx ry px py q hs
  cases px with
  | lst h p =>
    cases py with
    | int i =>
      obtain ⟨d, e, q⟩ := need_some q
      obtain ⟨w, h1, h2⟩ := atI_rel p e
      exact ix_list value slice pins s σ H _ _ v u _ J rx ry ⟨_, _, i, w, rfl, rfl, SqL.of h, h1, .val sb h2 q⟩ (hs _ _)
    | _ => exact q.elim
  | tup h p =>
    cases py with
    | int i =>
      obtain ⟨d, e, q⟩ := need_some q
      obtain ⟨w, h1, h2⟩ := atI_rel p e
      exact ix_tup value slice pins s σ H _ _ v u _ J rx ry ⟨_, _, i, w, rfl, rfl, SqT.sub sb h, h1, .val sb h2 q⟩ (hs _ _)
    | _ => exact q.elim
  | str a ha za =>
    cases py with
    | int i =>
      obtain ⟨c, e, q⟩ := need_some q
      exact ix_str value slice pins s σ H _ _ v u _ J rx ry ⟨a, i, c, rfl, rfl, za, e, .val sb (.str _ (strOk_at ha e) sizeLine_pos) q⟩ (hs _ _)
    | _ => exact q.elim
  | _ => exact q.elim
def cutD {α : Type} (xs : List α) (lo hi : Option Int) : List α := (xs.drop (HT.sIx xs.length 0 lo)).take (HT.sIx xs.length xs.length hi - HT.sIx xs.length 0 lo)
theorem cut_rel {K : PySem.W.Frag} {I : Hp} {vs : List V} {ds : List PyData} (p : PRs K I vs ds) (lo hi : Option Int) : PRs K I (cutV vs lo hi) (cutD ds lo hi) := by
  unfold cutV cutD
  rw [p.length]
  exact (p.drop _).take _
theorem cut_whole {xs : List PyData} {lo hi : Option Int} (h : HT.sIx xs.length 0 lo = 0 ∧ HT.sIx xs.length xs.length hi = xs.length) : cutD xs lo hi = xs := by
  unfold cutD
  rw [h.1, h.2]
  simp
def rSl : PyData → Option Int → Option Int → (S → Prop) → Prop
  | .list xs, lo, hi, Q => Q (.lst (cutD xs lo hi))
  | .tuple xs, lo, hi, Q => Q (.val (.tuple (cutD xs lo hi)))
  | .str x, lo, hi, Q => Q (.val (.str (cutS x lo hi)))
  | _, _, _, _ => False
theorem strOk_cut {x : Str} (h : PyData.strOk x = true) (lo hi : Option Int) : PyData.strOk (cutS x lo hi) = true := by
  refine Array.all_eq_true_iff_forall_mem.mpr fun c hc => ?_
  refine (Array.all_eq_true_iff_forall_mem.mp h) c ?_
  unfold cutS at hc
  have hc' : c ∈ (x.cps.toList.drop (HT.sIx x.length 0 lo)).take (HT.sIx x.length x.length hi - HT.sIx x.length 0 lo) := by simpa using hc
  have := List.mem_of_mem_drop (List.mem_of_mem_take hc')
  simpa using this
def SlOp (X : Cx) (r : PyData → Option Int → Option Int → (S → Prop) → Prop) : Prop :=
  ∀ (I : Hp) (Q : S → Prop) (d : PyData) (lo hi : Option Int), r d lo hi Q → ∀ (x : V) (H : Hp), Sub I H → AR X.K I H x d → ∃ r2, SlR X r2 ∧ r2 x lo hi H (VP X I H Q)
theorem o_sl : SlOp X rSl := by
  intro I Q d lo hi q x H sb px
  cases px with
  | lst h p => exact ⟨_, sl_list, _, _, rfl, SqL.of h, fun a ha => .newLst sb ha (cut_rel p lo hi) q⟩
  | tup h p =>
    refine ⟨_, sl_tupA, _, _, rfl, SqT.sub sb h, fun e => ?_, fun _ a ha => .newTup sb ha (cut_rel p lo hi) q⟩
    rw [p.length] at e
    refine .val sb (.tup h p) ?_
    have q' : Q (.val (.tuple (cutD _ lo hi))) := q
    rw [cut_whole e] at q'
    exact q'
  | str a ha za => exact ⟨_, sl_str, a, rfl, za, .val sb (.str _ (strOk_cut ha lo hi) (Nat.le_trans (cutS_length a lo hi) za)) q⟩
  | _ => exact (show False from q).elim
end
end SV
/-! SvD: rules of expressions. -/
namespace SV
open PySem PySem.Spec PyProof.Rows L2

/-- by a bool -/
def ifb (k : Bool) (A B : Prop) : Prop := match k with
  | true => A
  | false => B
theorem ifb_of {k : Bool} {A B : Prop} (h1 : k = true → A) (h2 : k = false → B) : ifb k A B := by
  cases k with
  | true => exact h1 rfl
  | false => exact h2 rfl
theorem ifb_t {k : Bool} {A B : Prop} (e : k = true) (h : A) : ifb k A B := by subst e; exact h
theorem ifb_f {k : Bool} {A B : Prop} (e : k = false) (h : B) : ifb k A B := by subst e; exact h
theorem ifb_dec {p : Prop} [Decidable p] {A B : Prop} (h1 : p → A) (h2 : ¬ p → B) : ifb (decide p) A B :=
  ifb_of (fun e => h1 (of_decide_eq_true e)) fun e => h2 (of_decide_eq_false e)

section
variable {X : Cx} {ar : Nat → Option V} {a b c e : Expr} {b1 b2 b3 m1 m2 m3 : Bool} {ta tb tc : TEs} {pos : Pos}

theorem TX.upd {I H I1 H1 : Hp} {F F1 : Nat → List Addr} {o1 : Addr → Prop} {ES : XS} (t : TX X ar I H (own F) ES) (a : Evo I H (own F) I1 H1 o1) (h : ∀ c, own F1 c → o1 c) : TX X ar I1 H1 (own F1) ES := t.go a h

/-! ### names, constants -/
/-- a name that holds pure data -/
def sVar (i : Nat) : TEs := fun σs Q _ => match gets σs i with
  | some (.val d) => Q (.val d) σs
  | _ => False
/-- a name, only looked at -/
def sView (i : Nat) : TEs := fun σs Q _ => nd (gets σs i) fun r => Q r σs
/-- a name whose own list is never changed from here on -/
def sFrz (i : Nat) : TEs := fun σs Q _ => nd (gets σs i) fun r => nd r.toD fun d => Q (.val d) (sets σs i (some (.val d)))
/-- a name that is given away -/
def sMov (i : Nat) : TEs := fun σs Q _ => nd (gets σs i) fun r => Q r (sets σs i none)
def sC (d : PyData) : TEs := fun σs Q _ => Q (.val d) σs

theorem eval_name {i : Nat} {x : Str} {pins : List (Addr × Obj)} {s : Shared} {σ : L2.St} {H : Hp} {v : V} {P : Value → Shared → Prop} (J : Inv X pins σ H s) (hN : X.N[i]? = some x) (hv : Vis X.env.scope x) (e1 : σ[i]? = some (some v))
    (hd : (x == ("__debug__" : Str)) = false) (hcd : (x == ("__classdict__" : Str)) = false) (h : ∀ u s', Inv X pins σ H s' → RelV v u → P u s') : wpAny (model X.prog X.w) X.A (eval (.Name x pos) X.env) P X.xe s :=
  thn ((pe_var (X := X) (pos := pos) hN hv hd hcd).run pins s σ H (fun w H' => w = v ∧ H' = H) J ⟨v, e1, rfl, rfl⟩) fun u s' ⟨w, H', J', r, ew, eH⟩ => by
    subst ew
    rw [eH] at J'
    exact h u s' J' r
variable {i : Nat} {x : Str}
theorem je_var (i : Nat) (hN : X.N[i]? = some x := by rfl) (hv : Vis X.env.scope x := by first | exact Or.inl rfl | exact Or.inr (Or.inl rfl) | exact Or.inr (Or.inr rfl)) (hd : (x == ("__debug__" : Str)) = false := by decide)
    (hcd : (x == ("__classdict__" : Str)) = false := by decide) : JE X ar true true (.Name x pos) (sVar i) := by
  refine ⟨fun pins s σ I H F σs Q ES J st tx q => ?_⟩
  unfold sVar at q
  cases e : gets σs i with
  | none => rw [e] at q; exact q.elim
  | some r =>
    obtain ⟨v, e1, sr⟩ := st.rep i r e
    rw [e] at q
    cases r with
    | val d => exact eval_name J hN hv e1 hd hcd fun u s' J' rv => RP.val J' st sr.val_inv.2 rv q
    | _ => exact q.elim
theorem je_view (i : Nat) (hN : X.N[i]? = some x := by rfl) (hv : Vis X.env.scope x := by first | exact Or.inl rfl | exact Or.inr (Or.inl rfl) | exact Or.inr (Or.inr rfl)) (hd : (x == ("__debug__" : Str)) = false := by decide)
    (hcd : (x == ("__classdict__" : Str)) = false := by decide) : JE X ar true false (.Name x pos) (sView i) := by
  refine ⟨fun pins s σ I H F σs Q ES J st tx q => ?_⟩
  obtain ⟨r, e, q⟩ := nd_some q
  obtain ⟨v, e1, sr⟩ := st.rep i r e
  refine eval_name J hN hv e1 hd hcd fun u s' J' rv => ?_
  refine ⟨v, r, F i, I, H, F, σs, ⟨J', ⟨.refl I, fun _ _ h _ => h, fun a m => ?_, fun _ _ h => .inl h⟩, st, sr, (fun z => Bool.noConfusion z), fun a m => st.notI i a m, fun _ => ⟨rfl, rfl, fun _ _ h => h⟩⟩, rv, q⟩
  rcases m with m | m
  · exact .inl ⟨i, m⟩
  · exact .inl m
theorem je_frz (i : Nat) (hN : X.N[i]? = some x := by rfl) (hv : Vis X.env.scope x := by first | exact Or.inl rfl | exact Or.inr (Or.inl rfl) | exact Or.inr (Or.inr rfl)) (hd : (x == ("__debug__" : Str)) = false := by decide)
    (hcd : (x == ("__classdict__" : Str)) = false := by decide) : JE X ar false true (.Name x pos) (sFrz i) := by
  refine ⟨fun pins s σ I H F σs Q ES J st tx q => ?_⟩
  obtain ⟨r, e, q⟩ := nd_some q
  obtain ⟨d, ed, q⟩ := nd_some q
  obtain ⟨v, e1, p, st', ev⟩ := st.freeze e ed
  refine eval_name J hN hv e1 hd hcd fun u s' J' rv => ?_
  exact ⟨v, .val d, [], _, H, _, _, ⟨J', ⟨ev.up, ev.fr, fun a m => by rcases m with m | m; cases m; exact ev.nw a m, ev.ni⟩, st', .val p, fun _ a m => absurd m (by simp), fun a m => absurd m (by simp), (fun z => Bool.noConfusion z)⟩, rv, q⟩
theorem je_mov (i : Nat) (hN : X.N[i]? = some x := by rfl) (hv : Vis X.env.scope x := by first | exact Or.inl rfl | exact Or.inr (Or.inl rfl) | exact Or.inr (Or.inr rfl)) (hd : (x == ("__debug__" : Str)) = false := by decide)
    (hcd : (x == ("__classdict__" : Str)) = false := by decide) : JE X ar false true (.Name x pos) (sMov i) := by
  refine ⟨fun pins s σ I H F σs Q ES J st tx q => ?_⟩
  obtain ⟨r, e, q⟩ := nd_some q
  obtain ⟨v, e1, sr⟩ := st.rep i r e
  refine eval_name J hN hv e1 hd hcd fun u s' J' rv => ?_
  refine ⟨v, r, F i, I, H, drop1 F i, _, ⟨J', ⟨.refl I, fun _ _ h _ => h, fun a m => ?_, fun _ _ h => .inl h⟩, st.forget i, sr, fun _ a m z => drop1_not st z m, fun a m => st.notI i a m, (fun z => Bool.noConfusion z)⟩, rv, q⟩
  rcases m with m | m
  · exact .inl ⟨i, m⟩
  · exact .inl (own_of_drop1 m)
/-- an expression of the layer below whose value is a constant -/
theorem je_const {v : V} {d : PyData} (h : PE X e (tC v)) (p : ∀ I, PR X.K I v d) : JE X ar true true e (sC d) := by
  refine ⟨fun pins s σ I H F σs Q ES J st tx q => ?_⟩
  refine thn (h.run pins s σ H (fun w H' => w = v ∧ H' = H) J ⟨rfl, rfl⟩) fun u s' ⟨w, H', J', r, ew, eH⟩ => ?_
  subst ew
  rw [eH] at J'
  exact RP.val J' st (p I) r q
theorem je_int {i j pos} : JE X ar true true (.Constant (.int i) j pos) (sC (.int i)) := je_const pe_int fun _ => .int _
theorem je_bl {i j pos} : JE X ar true true (.Constant (.bool i) j pos) (sC (.bool i)) := je_const pe_bl fun _ => .bl _
theorem je_non {j pos} : JE X ar true true (.Constant .none j pos) (sC .none) := je_const pe_non fun _ => .non
theorem je_str {x : Str} {j pos} (h1 : PyData.strOk x = true := by decide +kernel) (h2 : x.length ≤ sizeLine := by decide +kernel) : JE X ar true true (.Constant (.str x) j pos) (sC (.str x)) := je_const pe_str fun _ => .str _ h1 h2
/-- a module's constant of pure data -/
theorem je_glob {v : V} {u : Value} {d : PyData} (hg : Gl X x) (hm : X.mg x = some u) (r : RelV v u) (p : ∀ I, PR X.K I v d) (hd : (x == ("__debug__" : Str)) = false := by decide) : JE X ar true true (.Name x pos) (sC d) :=
  je_const (pe_glob hg hm r hd) p

/-! ### operators -/
def s2 (r : R2s) (ta tb : TEs) : TEs := fun σs Q ES => ta σs (fun x σ1 => nd x.toD fun dx => tb σ1 (fun y σ2 => nd y.toD fun dy => r dx dy fun z => Q z σ2) ES) ES
def s1 (r : R1s) (ta : TEs) : TEs := fun σs Q ES => ta σs (fun x σ1 => nd x.toD fun dx => r dx fun z => Q z σ1) ES
theorem two {f : Value → Value → Sem Value} {r : R2s} (ho : Op2 X f r) (ha : JE X ar b1 m1 a ta) (hb : JE X ar b2 m2 b tb) (hm : m1 = true ∨ b2 = true) {pins : List (Addr × Obj)} {s : Shared} {σ : L2.St} {I H : Hp} {F : Nat → List Addr} {σs : SSt} {Q : KS} {ES : XS}
    (J : Inv X pins σ H s) (st : StR X.K ar I H σ σs F) (tx : TX X ar I H (own F) ES) (q : s2 r ta tb σs Q ES) :
    wpAny (model X.prog X.w) X.A (eval a X.env) (fun v s₁ => wpAny (model X.prog X.w) X.A (eval b X.env) (fun u s₂ => wpAny (model X.prog X.w) X.A (f v u) (RP X ar pins σ (b1 && b2) true I H F σs Q) X.xe s₂) X.xe s₁) X.xe s := by
  refine thn (ha.run pins s σ I H F σs _ ES J st tx q) fun v s1 ⟨x, rx, R1, I1, H1, F1, σ1, h1, r1, q1⟩ => ?_
  obtain ⟨dx, ex, q1⟩ := nd_some q1
  refine thn (hb.run pins s1 σ I1 H1 F1 σ1 _ ES h1.inv h1.st (tx.go h1.base.evo fun _ z => z) q1) fun u s2 ⟨y, ry, R2, I2, H2, F2, σ2, h2, r2, q2⟩ => ?_
  obtain ⟨dy, ey, q2⟩ := nd_some q2
  obtain ⟨sx, _, _, _⟩ := h1.over h2.base hm
  exact thn (ho pins s2 σ H2 I2 x y v u dx dy _ h2.inv h2.st.sub r1 r2 (sx.ar h2.st.sub ex) (h2.sr.ar h2.st.sub ey) q2) fun w s3 h => RP.of_vp (h1.base.then h2.base) h
theorem je_op2 {op : Operator} {r : R2s} (ho : Op2 X (binaryOp op) r) (ha : JE X ar b1 m1 a ta) (hb : JE X ar b2 m2 b tb) (hm : m1 = true ∨ b2 = true := by first | exact Or.inl rfl | exact Or.inr rfl) : JE X ar (b1 && b2) true (.BinOp a op b pos) (s2 r ta tb) :=
  ⟨fun pins s σ I H F σs Q ES J st tx q => wpAny_BinOp (two ho ha hb hm J st tx q)⟩
theorem je_un {op : UnaryOp} {r : R1s} (ho : Op1 X (unaryOp op) r) (ha : JE X ar b1 m1 a ta) : JE X ar b1 true (.UnaryOp op a pos) (s1 r ta) := by
  refine ⟨fun pins s σ I H F σs Q ES J st tx q => ?_⟩
  refine UnaryOp_ (thn (ha.run pins s σ I H F σs _ ES J st tx q) fun v s1 ⟨x, rx, R1, I1, H1, F1, σ1, h1, r1, q1⟩ => ?_)
  obtain ⟨dx, ex, q1⟩ := nd_some q1
  exact thn (ho pins s1 σ H1 I1 x v dx _ h1.inv h1.st.sub r1 (h1.sr.ar h1.st.sub ex) q1) fun w s3 h => RP.of_vp h1.base h
theorem je_cmp {op : CmpOp} {r : R2s} (ho : Op2 X (compareOp op) r) (ha : JE X ar b1 m1 a ta) (hb : JE X ar b2 m2 b tb) (hk : behindInMarks op b = false := by first | exact nobehind _ (by decide) (by decide) | rfl | with_unfolding_all rfl)
    (hm : m1 = true ∨ b2 = true := by first | exact Or.inl rfl | exact Or.inr rfl) : JE X ar (b1 && b2) true (.Compare a [op] [b] pos) (s2 r ta tb) :=
  ⟨fun pins s σ I H F σs Q ES J st tx q => wpAny_Compare1 (two ho ha hb hm J st tx q) hk⟩

/-- a value as a test -/
def tT (t : TEs) : TTs := fun σs Q ES => t σs (fun r σ1 => nd r.toD fun d => Q (tru d) σ1) ES
theorem tru_run {pins : List (Addr × Obj)} {s : Shared} {σ : L2.St} {I H : Hp} {x : V} {v : Value} {d : PyData} {P : Bool → Shared → Prop} (J : Inv X pins σ H s) (sb : Sub I H) (rx : RelV x v) (h : AR X.K I H x d) (q : ∀ s', Inv X pins σ H s' → P (tru d) s') :
    wpAny (model X.prog X.w) X.A (truthy v) P X.xe s :=
  thn (tru_ok pins s σ H x v (fun k H' => k = tru d ∧ H' = H) J rx ⟨_, h.tru sb, rfl, rfl⟩) fun k s' ⟨H', J', ek, eH⟩ => by
    subst ek
    rw [eH] at J'
    exact q s' J'
theorem jt_val {e : Expr} {t : TEs} (h : JE X ar b1 m1 e t) (he : ∀ whole, isTrue e X.env whole = (do let v ← whole; standAt e.pos; holding [v] (truthy v)) := by intro _; rfl) : JT X ar b1 e (tT t) := by
  refine ⟨fun pins s σ I H F σs Q ES J st tx q => ?_⟩
  refine isTrue_plain (thn (h.run pins s σ I H F σs _ ES J st tx q) fun v s1 ⟨x, rx, R1, I1, H1, F1, σ1, h1, r1, q1⟩ => ?_) (he _)
  obtain ⟨d, ex, q1⟩ := nd_some q1
  refine tru_run h1.inv h1.st.sub r1 (h1.sr.ar h1.st.sub ex) fun s' J' => ⟨I1, H1, F1, σ1, ⟨J', h1.base.evo, h1.st, h1.pu⟩, q1⟩
theorem RP.tru {pins : List (Addr × Obj)} {s : Shared} {σ : L2.St} {I H : Hp} {F : Nat → List Addr} {σs : SSt} {Q : Bool → SSt → Prop} {c : Value} (h : RP X ar pins σ b1 m1 I H F σs (fun r σ1 => nd r.toD fun d => Q (tru d) σ1) c s) :
    wpAny (model X.prog X.w) X.A (truthy c) (BP X ar pins σ b1 I H F σs Q) X.xe s := by
  obtain ⟨x, rx, R1, I1, H1, F1, σ1, h1, r1, q1⟩ := h
  obtain ⟨d, ex, q1⟩ := nd_some q1
  exact tru_run h1.inv h1.st.sub r1 (h1.sr.ar h1.st.sub ex) fun s' J' => ⟨I1, H1, F1, σ1, ⟨J', h1.base.evo, h1.st, h1.pu⟩, q1⟩
theorem jt_cmp {op : CmpOp} {r : R2s} (ho : Op2 X (compareOp op) r) (ha : JE X ar b1 m1 a ta) (hb : JE X ar b2 m2 b tb) (hk : behindInMarks op b = false := by first | exact nobehind _ (by decide) (by decide) | rfl | with_unfolding_all rfl)
    (hm : m1 = true ∨ b2 = true := by first | exact Or.inl rfl | exact Or.inr rfl) : JT X ar (b1 && b2) (.Compare a [op] [b] pos) (tT (s2 r ta tb)) := by
  refine ⟨fun pins s σ I H F σs Q ES J st tx q => ?_⟩
  exact wpAny_isTrue_Compare1 (thn (two ho ha hb hm J st tx q) fun v s1 h1 => thn h1 fun u s2 h2 => thn h2 fun c s3 h3 => RP.tru h3) hk

/-! ### a chain of two comparisons -/
def sChain (r r' : R2s) (ta tb tc : TEs) : TEs := fun σs Q ES => ta σs (fun x σ1 => nd x.toD fun dx => tb σ1 (fun y σ2 => nd y.toD fun dy => r dx dy fun z => match z with
  | .val (.bool k) => ifb k (tc σ2 (fun w σ3 => nd w.toD fun dw => r' dy dw fun z' => Q z' σ3) ES) (Q (.val (.bool false)) σ2)
  | _ => False) ES) ES
theorem chain3 {f f' : Value → Value → Sem Value} {r r' : R2s} (ho : Op2 X f r) (ho' : Op2 X f' r') (ha : JE X ar b1 m1 a ta) (hb : JE X ar b2 m2 b tb) (hc : JE X ar b3 m3 c tc) (hm : m1 = true ∨ b2 = true) (hm2 : m2 = true ∨ b3 = true)
    {pins : List (Addr × Obj)} {s : Shared} {σ : L2.St} {I H : Hp} {F : Nat → List Addr} {σs : SSt} {Q : KS} {ES : XS} {P : Value → Value → Value → Shared → Prop}
    (J : Inv X pins σ H s) (st : StR X.K ar I H σ σs F) (tx : TX X ar I H (own F) ES) (q : sChain r r' ta tb tc σs Q ES)
    (no : ∀ v u s', RP X ar pins σ (b1 && b2 && b3) true I H F σs Q (.bool false) s' → P v u (.bool false) s')
    (yes : ∀ v u s', wpAny (model X.prog X.w) X.A (eval c X.env) (fun w s3 => wpAny (model X.prog X.w) X.A (f' u w) (RP X ar pins σ (b1 && b2 && b3) true I H F σs Q) X.xe s3) X.xe s' → P v u (.bool true) s') :
    wpAny (model X.prog X.w) X.A (eval a X.env) (fun v s₁ => wpAny (model X.prog X.w) X.A (eval b X.env) (fun u s₂ => wpAny (model X.prog X.w) X.A (f v u) (fun z s3 => P v u z s3) X.xe s₂) X.xe s₁) X.xe s := by
  refine thn (ha.run pins s σ I H F σs _ ES J st tx q) fun v s1 ⟨x, rx, R1, I1, H1, F1, σ1, h1, r1, q1⟩ => ?_
  obtain ⟨dx, ex, q1⟩ := nd_some q1
  refine thn (hb.run pins s1 σ I1 H1 F1 σ1 _ ES h1.inv h1.st (tx.go h1.base.evo fun _ z => z) q1) fun u s2 ⟨y, ry, R2, I2, H2, F2, σ2, h2, r2, q2⟩ => ?_
  obtain ⟨dy, ey, q2⟩ := nd_some q2
  obtain ⟨sx, _, _, _⟩ := h1.over h2.base hm
  have base := h1.base.then h2.base
  refine thn (ho pins s2 σ H2 I2 x y v u dx dy _ h2.inv h2.st.sub r1 r2 (sx.ar h2.st.sub ex) (h2.sr.ar h2.st.sub ey) q2) fun z s3 h3 => ?_
  obtain ⟨vz, H3, J3, rz, r3, R3, I3, d3, q3⟩ := h3
  have h3 : RP X ar pins σ (b1 && b2) true I H F σs (fun z' σ' => z' = r3 ∧ σ' = σ2) z s3 := RP.of_vp base ⟨vz, H3, J3, rz, r3, R3, I3, d3, rfl, rfl⟩
  have h4 : RP X ar pins σ b2 true I1 H1 F1 σ1 (fun z' σ' => z' = r3 ∧ σ' = σ2) z s3 := RP.of_vp h2.base ⟨vz, H3, J3, rz, r3, R3, I3, d3, rfl, rfl⟩
  have h5 : RP X ar pins σ true true I2 H2 F2 σ2 (fun z' σ' => z' = r3 ∧ σ' = σ2) z s3 := RP.of_vp (BPd.refl h2.inv h2.st) ⟨vz, H3, J3, rz, r3, R3, I3, d3, rfl, rfl⟩
  cases r3 with
  | val dz =>
    cases dz with
    | bool k =>
      have rb : z = .bool k := by
        cases d3.sr with
        | val p => cases p; exact rz
      subst rb
      obtain ⟨_, _, R5, I5, H5, F5, σ5, d5, _, e5, e6⟩ := h5
      subst e5
      subst e6
      have b5 := base.then d5.base
      cases k with
      | false =>
        refine no v u s3 ?_
        obtain ⟨v6, r6, R6, I6, H6, F6, σ6, d6, rv6, q6⟩ := (RP.val (b := b3) (m := true) (Q := Q) d5.inv d5.st (.bl false) (rfl : RelV (.bl false) (.bool false)) q3)
        have d7 := b5.thenR d6
        rw [Bool.and_true] at d7
        exact ⟨v6, r6, R6, I6, H6, F6, σ6, d7, rv6, q6⟩
      | true =>
        refine yes v u s3 ?_
        refine thn (hc.run pins s3 σ I5 H5 F5 _ _ ES d5.inv d5.st (tx.go b5.evo fun _ z => z) q3) fun w s4 ⟨y4, r4, R4, I4, H4, F4, σ4, h4', rw4, q4⟩ => ?_
        obtain ⟨dw, ew, q4⟩ := nd_some q4
        have hy := h2.over (d5.base.then h4'.base) (by rcases hm2 with z | z <;> simp [z])
        refine thn (ho' pins s4 σ H4 I4 y y4 u w dy dw _ h4'.inv h4'.st.sub r2 rw4 (hy.1.ar h4'.st.sub ey) (h4'.sr.ar h4'.st.sub ew) q4) fun w' s5 h6 => ?_
        have := RP.of_vp (b5.then h4'.base) h6
        rw [Bool.and_true] at this
        exact this
    | _ => exact q3.elim
  | _ => exact q3.elim
end
end SV
/-! SvE: rules of expressions, further: chains, and, or, not, if; displays; items, slices; calls of built-ins. -/
namespace SV
open PySem PySem.Spec PyProof.Rows L2

section
variable {X : Cx} {ar : Nat → Option V} {a b c e : Expr} {b1 b2 b3 m1 m2 m3 : Bool} {ta tb tc : TEs} {pos : Pos}
theorem je_chain {op op' : CmpOp} {r r' : R2s} (ho : Op2 X (compareOp op) r) (ho' : Op2 X (compareOp op') r') (ha : JE X ar b1 m1 a ta) (hb : JE X ar b2 m2 b tb) (hc : JE X ar b3 m3 c tc)
    (hm : m1 = true ∨ b2 = true := by first | exact Or.inl rfl | exact Or.inr rfl) (hm2 : m2 = true ∨ b3 = true := by first | exact Or.inl rfl | exact Or.inr rfl) (hk : lastMarks [op, op'] [b, c] = false := by with_unfolding_all rfl) :
    JE X ar (b1 && b2 && b3) true (.Compare a [op, op'] [b, c] pos) (sChain r r' ta tb tc) := by
  refine ⟨fun pins s σ I H F σs Q ES J st tx q => ?_⟩
  refine Compare_chain (thn (chain3 (P := fun v u z s3 => wpAny (model X.prog X.w) X.A (truthy z) (fun t s₃ => if t then wpAny (model X.prog X.w) X.A (compareChain pos u [op'] [eval c X.env]) (RP X ar pins σ (b1 && b2 && b3) true I H F σs Q) X.xe s₃ else RP X ar pins σ (b1 && b2 && b3) true I H F σs Q z s₃) X.xe s3) ho ho' ha hb hc hm hm2 J st tx q (fun v u s' h => ?_) (fun v u s' h => ?_)) fun v s1 h => chain_link h) hk
  · exact wpAny_truthy_bool (ite_ff h)
  · exact wpAny_truthy_bool (ite_tt (chain_last h))
theorem jt_chain {op op' : CmpOp} {r r' : R2s} (ho : Op2 X (compareOp op) r) (ho' : Op2 X (compareOp op') r') (ha : JE X ar b1 m1 a ta) (hb : JE X ar b2 m2 b tb) (hc : JE X ar b3 m3 c tc)
    (hm : m1 = true ∨ b2 = true := by first | exact Or.inl rfl | exact Or.inr rfl) (hm2 : m2 = true ∨ b3 = true := by first | exact Or.inl rfl | exact Or.inr rfl) (hk : lastMarks [op, op'] [b, c] = false := by with_unfolding_all rfl) :
    JT X ar (b1 && b2 && b3) (.Compare a [op, op'] [b, c] pos) (tT (sChain r r' ta tb tc)) := by
  refine ⟨fun pins s σ I H F σs Q ES J st tx q => ?_⟩
  refine isTrue_chain (thn (chain3 (P := fun v u z s3 => wpAny (model X.prog X.w) X.A (truthy z) (fun t s₃ => if t then wpAny (model X.prog X.w) X.A (testChain pos u [op'] [eval c X.env]) (BP X ar pins σ (b1 && b2 && b3) I H F σs Q) X.xe s₃ else BP X ar pins σ (b1 && b2 && b3) I H F σs Q false s₃) X.xe s3) ho ho' ha hb hc hm hm2 J st tx q (fun v u s' h => ?_) (fun v u s' h => ?_)) fun v s1 h => test_link h) hk
  · refine wpAny_truthy_bool (ite_ff ?_)
    obtain ⟨v6, r6, R6, I6, H6, F6, σ6, d6, rv6, q6⟩ := h
    obtain ⟨d, ex, q6⟩ := nd_some q6
    have : tru d = false := by
      cases d6.sr with
      | val p =>
        cases ex
        cases p with
        | bl k => cases rv6; rfl
        | int => obtain ⟨_, z⟩ := rv6; cases z
        | str => obtain ⟨_, z⟩ := rv6; cases z
        | _ => cases rv6
      | lst => cases rv6
      | scr => cases ex
      | adr => cases ex
      | ins => cases ex
    rw [this] at q6
    exact ⟨I6, H6, F6, σ6, d6.base, q6⟩
  · exact wpAny_truthy_bool (ite_tt (test_last (thn h fun w s2 h2 => thn h2 fun z s3 h3 => RP.tru h3)))

/-! ### and, or, not as tests -/
def tAnd (t u : TTs) : TTs := fun σs Q ES => t σs (fun k σ1 => ifb k (u σ1 Q ES) (Q false σ1)) ES
def tOr (t u : TTs) : TTs := fun σs Q ES => t σs (fun k σ1 => ifb k (Q true σ1) (u σ1 Q ES)) ES
def tNot (t : TTs) : TTs := fun σs Q ES => t σs (fun k σ1 => Q (!k) σ1) ES
variable {t u : TTs} {rest : List Expr}
theorem jw_and1 (ha : JT X ar b1 a t) : JW X ar b1 (.BoolOp .And [a] pos) t := by
  refine ⟨fun wh pins s σ I H F σs Q ES J st tx q => ?_⟩
  refine isTrue_and (thn (ha.run pins s σ I H F σs Q ES J st tx q) fun k s1 h => ?_)
  cases k with
  | true => exact isTrue_and_nil h
  | false => exact h
theorem jw_or1 (ha : JT X ar b1 a t) : JW X ar b1 (.BoolOp .Or [a] pos) t := by
  refine ⟨fun wh pins s σ I H F σs Q ES J st tx q => ?_⟩
  refine isTrue_or (thn (ha.run pins s σ I H F σs Q ES J st tx q) fun k s1 h => ?_)
  cases k with
  | false => exact isTrue_or_nil h
  | true => exact h
theorem BP.after {pins : List (Addr × Obj)} {σ : L2.St} {I H I1 H1 : Hp} {F F1 : Nat → List Addr} {σs σ1 : SSt} {s1 s2 : Shared} {Q : Bool → SSt → Prop} {k : Bool} (a : BPd X ar pins σ b1 I H F σs I1 H1 F1 σ1 s1) (h : BP X ar pins σ b2 I1 H1 F1 σ1 Q k s2) :
    BP X ar pins σ (b1 && b2) I H F σs Q k s2 := by
  obtain ⟨I2, H2, F2, σ2, d, q⟩ := h
  exact ⟨I2, H2, F2, σ2, a.then d, q⟩
theorem BPd.weak {pins : List (Addr × Obj)} {σ : L2.St} {I H I1 H1 : Hp} {F F1 : Nat → List Addr} {σs σ1 : SSt} {s1 : Shared} (a : BPd X ar pins σ b1 I H F σs I1 H1 F1 σ1 s1) (h : b2 = true → b1 = true) : BPd X ar pins σ b2 I H F σs I1 H1 F1 σ1 s1 :=
  ⟨a.inv, a.evo, a.st, fun e => a.pu (h e)⟩
theorem RPd.weak {pins : List (Addr × Obj)} {σ : L2.St} {I H I1 H1 : Hp} {F F1 : Nat → List Addr} {σs σ1 : SSt} {s1 : Shared} {v : V} {r : S} {R : List Addr} (a : RPd X ar pins σ b1 m1 I H F σs v r R I1 H1 F1 σ1 s1) (h : b2 = true → b1 = true) (h' : m2 = true → m1 = true) : RPd X ar pins σ b2 m2 I H F σs v r R I1 H1 F1 σ1 s1 :=
  ⟨a.inv, a.evo, a.st, a.sr, fun e => a.nf (h' e), a.nI, fun e => a.pu (h e)⟩
theorem RP.after {pins : List (Addr × Obj)} {σ : L2.St} {I H I1 H1 : Hp} {F F1 : Nat → List Addr} {σs σ1 : SSt} {s1 s2 : Shared} {Q : KS} {w : Value} (a : BPd X ar pins σ b1 I H F σs I1 H1 F1 σ1 s1) (h : RP X ar pins σ b2 m1 I1 H1 F1 σ1 Q w s2) :
    RP X ar pins σ (b1 && b2) m1 I H F σs Q w s2 := by
  obtain ⟨v, r, R, I2, H2, F2, σ2, d, rv, q⟩ := h
  exact ⟨v, r, R, I2, H2, F2, σ2, a.thenR d, rv, q⟩
theorem RP.weak {pins : List (Addr × Obj)} {σ : L2.St} {I H : Hp} {F : Nat → List Addr} {σs : SSt} {s2 : Shared} {Q : KS} {w : Value} (h : RP X ar pins σ b1 m1 I H F σs Q w s2) (h1 : b2 = true → b1 = true) (h' : m2 = true → m1 = true) : RP X ar pins σ b2 m2 I H F σs Q w s2 := by
  obtain ⟨v, r, R, I2, H2, F2, σ2, d, rv, q⟩ := h
  exact ⟨v, r, R, I2, H2, F2, σ2, d.weak h1 h', rv, q⟩
theorem jw_and (ha : JT X ar b1 a t) (hb : JW X ar b2 (.BoolOp .And (b :: rest) pos) u) : JW X ar (b1 && b2) (.BoolOp .And (a :: b :: rest) pos) (tAnd t u) := by
  refine ⟨fun wh pins s σ I H F σs Q ES J st tx q => ?_⟩
  refine isTrue_and (thn (ha.run pins s σ I H F σs _ ES J st tx q) fun k s1 ⟨I1, H1, F1, σ1, d, q1⟩ => ?_)
  cases k with
  | true => exact thn (hb.run wh pins s1 σ I1 H1 F1 σ1 Q ES d.inv d.st (tx.go d.evo fun _ z => z) q1) fun k s2 h => BP.after d h
  | false => exact ⟨I1, H1, F1, σ1, d.weak (fun z => by simp at z; exact z.1), q1⟩
theorem jw_or (ha : JT X ar b1 a t) (hb : JW X ar b2 (.BoolOp .Or (b :: rest) pos) u) : JW X ar (b1 && b2) (.BoolOp .Or (a :: b :: rest) pos) (tOr t u) := by
  refine ⟨fun wh pins s σ I H F σs Q ES J st tx q => ?_⟩
  refine isTrue_or (thn (ha.run pins s σ I H F σs _ ES J st tx q) fun k s1 ⟨I1, H1, F1, σ1, d, q1⟩ => ?_)
  cases k with
  | false => exact thn (hb.run wh pins s1 σ I1 H1 F1 σ1 Q ES d.inv d.st (tx.go d.evo fun _ z => z) q1) fun k s2 h => BP.after d h
  | true => exact ⟨I1, H1, F1, σ1, d.weak (fun z => by simp at z; exact z.1), q1⟩
theorem jt_not (ha : JT X ar b1 a t) : JT X ar b1 (.UnaryOp .Not a pos) (tNot t) := by
  refine ⟨fun pins s σ I H F σs Q ES J st tx q => ?_⟩
  exact isTrue_not (thn (ha.run pins s σ I H F σs _ ES J st tx q) fun k s1 h => h)
/-- not, as a value -/
theorem je_not (ha : JE X ar b1 m1 a ta) : JE X ar b1 true (.UnaryOp .Not a pos) (fun σs Q ES => ta σs (fun r σ1 => nd r.toD fun d => Q (.val (.bool (!tru d))) σ1) ES) := by
  refine ⟨fun pins s σ I H F σs Q ES J st tx q => ?_⟩
  refine UnaryOp_ (thn (ha.run pins s σ I H F σs _ ES J st tx q) fun v s1 ⟨x, rx, R1, I1, H1, F1, σ1, h1, r1, q1⟩ => ?_)
  obtain ⟨d, ex, q1⟩ := nd_some q1
  refine not_of (tru_run h1.inv h1.st.sub r1 (h1.sr.ar h1.st.sub ex) fun s' J' => ?_)
  exact RP.of_vp (s' := s') (⟨J', h1.base.evo, h1.st, h1.pu⟩ : BPd X ar pins σ b1 I H F σs I1 H1 F1 σ1 s') ⟨.bl _, H1, J', rfl, .val h1.st.sub (.bl _) q1⟩
/-- .. as values -/
def sAnd (ta tb : TEs) : TEs := fun σs Q ES => ta σs (fun r σ1 => nd r.toD fun d => ifb (tru d) (tb σ1 Q ES) (Q r σ1)) ES
def sOr (ta tb : TEs) : TEs := fun σs Q ES => ta σs (fun r σ1 => nd r.toD fun d => ifb (tru d) (Q r σ1) (tb σ1 Q ES)) ES
theorem je_one {op} (h : JE X ar b1 m1 a ta) : JE X ar b1 m1 (.BoolOp op [a] pos) ta := ⟨fun pins s σ I H F σs Q ES J st tx q => BoolOp_one (h.run pins s σ I H F σs Q ES J st tx q)⟩
theorem je_and (ha : JE X ar b1 m1 a ta) (hb : JE X ar b2 m2 (.BoolOp .And (b :: rest) pos) tb) : JE X ar (b1 && b2) (m1 && m2) (.BoolOp .And (a :: b :: rest) pos) (sAnd ta tb) := by
  refine ⟨fun pins s σ I H F σs Q ES J st tx q => ?_⟩
  refine BoolOp_and (thn (ha.run pins s σ I H F σs _ ES J st tx q) fun v s1 ⟨x, rx, R1, I1, H1, F1, σ1, h1, r1, q1⟩ => ?_)
  obtain ⟨d, ex, q1⟩ := nd_some q1
  refine tru_run h1.inv h1.st.sub r1 (h1.sr.ar h1.st.sub ex) fun s' J' => ?_
  have h2 : RPd X ar pins σ b1 m1 I H F σs x rx R1 I1 H1 F1 σ1 s' := ⟨J', h1.evo, h1.st, h1.sr, h1.nf, h1.nI, h1.pu⟩
  cases hd : tru d with
  | true =>
    rw [hd] at q1
    exact thn (hb.run pins s' σ I1 H1 F1 σ1 Q ES J' h2.st (tx.go h2.base.evo fun _ z => z) q1) fun w s3 h3 => (RP.after h2.base h3).weak (fun z => z) (fun z => by simp at z; exact z.2)
  | false =>
    rw [hd] at q1
    exact ⟨x, rx, R1, I1, H1, F1, σ1, h2.weak (fun z => by simp at z; exact z.1) (fun z => by simp at z; exact z.1), r1, q1⟩
theorem je_or (ha : JE X ar b1 m1 a ta) (hb : JE X ar b2 m2 (.BoolOp .Or (b :: rest) pos) tb) : JE X ar (b1 && b2) (m1 && m2) (.BoolOp .Or (a :: b :: rest) pos) (sOr ta tb) := by
  refine ⟨fun pins s σ I H F σs Q ES J st tx q => ?_⟩
  refine BoolOp_or (thn (ha.run pins s σ I H F σs _ ES J st tx q) fun v s1 ⟨x, rx, R1, I1, H1, F1, σ1, h1, r1, q1⟩ => ?_)
  obtain ⟨d, ex, q1⟩ := nd_some q1
  refine tru_run h1.inv h1.st.sub r1 (h1.sr.ar h1.st.sub ex) fun s' J' => ?_
  have h2 : RPd X ar pins σ b1 m1 I H F σs x rx R1 I1 H1 F1 σ1 s' := ⟨J', h1.evo, h1.st, h1.sr, h1.nf, h1.nI, h1.pu⟩
  cases hd : tru d with
  | false =>
    rw [hd] at q1
    exact thn (hb.run pins s' σ I1 H1 F1 σ1 Q ES J' h2.st (tx.go h2.base.evo fun _ z => z) q1) fun w s3 h3 => (RP.after h2.base h3).weak (fun z => z) (fun z => by simp at z; exact z.2)
  | true =>
    rw [hd] at q1
    exact ⟨x, rx, R1, I1, H1, F1, σ1, h2.weak (fun z => by simp at z; exact z.1) (fun z => by simp at z; exact z.1), r1, q1⟩
/-- a if t else b -/
def sIf (t : TTs) (ta tb : TEs) : TEs := fun σs Q ES => t σs (fun k σ1 => ifb k (ta σ1 Q ES) (tb σ1 Q ES)) ES
theorem je_if (hc : JT X ar b1 c t) (ha : JE X ar b2 m2 a ta) (hb : JE X ar b3 m3 b tb) : JE X ar (b1 && b2 && b3) (m2 && m3) (.IfExp c a b pos) (sIf t ta tb) := by
  refine ⟨fun pins s σ I H F σs Q ES J st tx q => ?_⟩
  refine wpAny_IfExp (thn (hc.run pins s σ I H F σs _ ES J st tx q) fun k s1 ⟨I1, H1, F1, σ1, d, q1⟩ => ?_)
  cases k with
  | true => exact thn (ha.run pins s1 σ I1 H1 F1 σ1 Q ES d.inv d.st (tx.go d.evo fun _ z => z) q1) fun w s2 h => (RP.after d h).weak (fun z => by simp at z; simp [z.1]) (fun z => by simp at z; exact z.1)
  | false => exact thn (hb.run pins s1 σ I1 H1 F1 σ1 Q ES d.inv d.st (tx.go d.evo fun _ z => z) q1) fun w s2 h => (RP.after d h).weak (fun z => by simp at z; simp [z.1, z.2]) (fun z => by simp at z; exact z.2)

/-! ### written arguments, each pure behind its step -/
abbrev TPs := SSt → (List PyData → SSt → Prop) → XS → Prop
def APs (X : Cx) (ar : Nat → Option V) (pins : List (Addr × Obj)) (σ : L2.St) (b : Bool) (I H : Hp) (F : Nat → List Addr) (σs : SSt) (Q : List PyData → SSt → Prop) (us : List Value) (s' : Shared) : Prop :=
  ∃ vs ds I' H' F' σs', BPd X ar pins σ b I H F σs I' H' F' σs' s' ∧ Vals vs us ∧ PRs X.K I' vs ds ∧ Q ds σs'
structure JA (X : Cx) (ar : Nat → Option V) (b : Bool) (es : List Expr) (t : TPs) : Prop where
  run : ∀ (pos : Pos) (pins : List (Addr × Obj)) (s : Shared) (σ : L2.St) (I H : Hp) (F : Nat → List Addr) (σs : SSt) (Q : List PyData → SSt → Prop) (ES : XS), Inv X pins σ H s → StR X.K ar I H σ σs F → TX X ar I H (own F) ES → t σs Q ES →
    wpAny (model X.prog X.w) X.A (spliced (backTo pos (starEach es X.env))) (APs X ar pins σ b I H F σs Q) X.xe s
def pNil : TPs := fun σs Q _ => Q [] σs
def pCons (te : TEs) (t : TPs) : TPs := fun σs Q ES => te σs (fun r σ1 => nd r.toD fun d => t σ1 (fun ds σ2 => Q (d :: ds) σ2) ES) ES
variable {es : List Expr} {te : TEs} {tp : TPs}
theorem ja_nil : JA X ar true [] pNil := ⟨fun _ pins s σ I H F σs Q ES J st tx q => Calls.spliced_nil ⟨[], [], I, H, F, σs, .refl J st, .nil, .nil, q⟩⟩
theorem ja_cons (ha : JE X ar b1 true e te) (hr : JA X ar b2 es tp) (hs : starEach (e :: es) X.env = (false, eval e X.env) :: starEach es X.env := by rfl) : JA X ar (b1 && b2) (e :: es) (pCons te tp) := by
  refine ⟨fun pos pins s σ I H F σs Q ES J st tx q => ?_⟩
  rw [hs]
  show wpAny _ _ (spliced ((false, eval e X.env) :: backTo pos (starEach es X.env))) _ _ s
  refine Calls.spliced_cons (thn (ha.run pins s σ I H F σs _ ES J st tx q) fun v s1 ⟨x, rx, R1, I1, H1, F1, σ1, h1, r1, q1⟩ => ?_)
  obtain ⟨d, ex, q1⟩ := nd_some q1
  obtain ⟨hb, p⟩ := h1.freeze ex
  refine thn (hr.run pos pins s1 σ _ H1 F1 σ1 _ ES hb.inv hb.st (tx.go hb.evo fun _ z => z) q1) fun us s2 ⟨vs, ds, I2, H2, F2, σ2, h2, rv, pv, q2⟩ => ?_
  exact ⟨x :: vs, d :: ds, I2, H2, F2, σ2, hb.then h2, .cons r1 rv, .cons (p.sub h2.evo.up) pv, q2⟩
def sTup (t : TPs) : TEs := fun σs Q ES => t σs (fun ds σ1 => ds.length ≤ sizeLine ∧ Q (.val (.tuple ds)) σ1) ES
def sLst (t : TPs) : TEs := fun σs Q ES => t σs (fun ds σ1 => ds.length ≤ sizeLine ∧ Q (.lst ds) σ1) ES
theorem je_tup {k} (h : JA X ar b1 es tp) : JE X ar b1 true (.Tuple es k pos) (sTup tp) := by
  refine ⟨fun pins s σ I H F σs Q ES J st tx q => ?_⟩
  refine wpAny_Tuple_spliced (thn (h.run pos pins s σ I H F σs _ ES J st tx q) fun us s1 ⟨vs, ds, I1, H1, F1, σ1, h1, rv, pv, z, q1⟩ => ⟨by rw [← rv.length, pv.length]; exact z, ?_⟩)
  have hf : H1 s1.heap.objs.size = none := h1.inv.hok.fresh (Nat.le_refl _)
  refine RP.of_vp h1 ⟨.ref s1.heap.objs.size, upd H1 s1.heap.objs.size (.tup vs), h1.inv.laid (t' := s1.toks) (fun b u e => Heap.get?_push_of_some _ e) (Nat.le_refl _) ?_, rfl, .newTup h1.st.sub hf pv q1⟩
  exact ⟨by rw [pv.length]; exact z, us, rv, ⟨_, Heap.get?_push_size _ rfl, rfl, _, rfl⟩⟩
theorem je_lst (h : JA X ar b1 es tp) : JE X ar b1 true (.List es pos) (sLst tp) := by
  refine ⟨fun pins s σ I H F σs Q ES J st tx q => ?_⟩
  refine wpAny_List_spliced (thn (h.run pos pins s σ I H F σs _ ES J st tx q) fun us s1 ⟨vs, ds, I1, H1, F1, σ1, h1, rv, pv, z, q1⟩ => ⟨by rw [← rv.length, pv.length]; exact z, ?_⟩)
  have hf : H1 s1.heap.objs.size = none := h1.inv.hok.fresh (Nat.le_refl _)
  refine RP.of_vp h1 ⟨.ref s1.heap.objs.size, upd H1 s1.heap.objs.size (.lst vs), h1.inv.laid (t' := s1.toks) (fun b u e => Heap.get?_push_of_some _ e) (Nat.le_refl _) ?_, rfl, .newLst h1.st.sub hf pv q1⟩
  exact ⟨by rw [pv.length]; exact z, us, 0, rv, Heap.get?_push_size _ rfl⟩

/-! ### items, slices -/
theorem je_ix {r : R2s} (hr : IxOp X r) (ha : JE X ar b1 m1 a ta) (hb : JE X ar b2 m2 b tb) (hs : PlainIx b := by exact fun _ _ => rfl) (hm : m1 = true ∨ b2 = true := by first | exact Or.inl rfl | exact Or.inr rfl) :
    JE X ar (b1 && b2) true (.Subscript a b pos) (s2 r ta tb) := by
  refine ⟨fun pins s σ I H F σs Q ES J st tx q => ?_⟩
  refine Subscript_ (thn (ha.run pins s σ I H F σs _ ES J st tx q) fun v s1 ⟨x, rx, R1, I1, H1, F1, σ1, h1, r1, q1⟩ => ?_)
  obtain ⟨dx, ex, q1⟩ := nd_some q1
  refine thn (hb.run pins s1 σ I1 H1 F1 σ1 _ ES h1.inv h1.st (tx.go h1.base.evo fun _ z => z) q1) fun u s2 ⟨y, ry, R2, I2, H2, F2, σ2, h2, r2, q2⟩ => ?_
  obtain ⟨dy, ey, q2⟩ := nd_some q2
  obtain ⟨sx, _, _, _⟩ := h1.over h2.base hm
  exact thn (hr a b pins s2 σ H2 I2 x y v u dx dy _ h2.inv h2.st.sub r1 r2 (sx.ar h2.st.sub ex) (h2.sr.ar h2.st.sub ey) q2 hs) fun w s3 h => RP.of_vp (h1.base.then h2.base) h
/-- a slice's part -/
abbrev TOs := SSt → (Option Int → SSt → Prop) → XS → Prop
structure JO (X : Cx) (ar : Nat → Option V) (b : Bool) (e : Option Expr) (t : TOs) : Prop where
  run : ∀ (pins : List (Addr × Obj)) (s : Shared) (σ : L2.St) (I H : Hp) (F : Nat → List Addr) (σs : SSt) (Q : Option Int → SSt → Prop) (ES : XS), Inv X pins σ H s → StR X.K ar I H σ σs F → TX X ar I H (own F) ES → t σs Q ES →
    wpAny (model X.prog X.w) X.A (evalPart e X.env) (fun u s' => ∃ o I' H' F' σs', BPd X ar pins σ b I H F σs I' H' F' σs' s' ∧ IsPart u o ∧ Q o σs') X.xe s
def oNone : TOs := fun σs Q _ => Q none σs
def oSome (te : TEs) : TOs := fun σs Q ES => te σs (fun r σ1 => match r with
  | .val (.int i) => Q (some i) σ1
  | _ => False) ES
theorem jo_none : JO X ar true none oNone := by
  refine ⟨fun pins s σ I H F σs Q ES J st tx q => ?_⟩
  rw [evalPart_none]
  exact wpAny_pure ⟨none, I, H, F, σs, .refl J st, .none, q⟩
theorem jo_some (h : JE X ar b1 m1 e te) : JO X ar b1 (some e) (oSome te) := by
  refine ⟨fun pins s σ I H F σs Q ES J st tx q => ?_⟩
  rw [evalPart_some]
  refine thn (h.run pins s σ I H F σs _ ES J st tx q) fun u s1 ⟨x, rx, R1, I1, H1, F1, σ1, h1, r1, q1⟩ => ?_
  cases rx with
  | val d =>
    cases d with
    | int i =>
      obtain ⟨_, p⟩ := h1.sr.val_inv
      cases p
      obtain ⟨t, rfl⟩ := r1
      exact ⟨some i, I1, H1, F1, σ1, h1.base, .int i t, q1⟩
    | _ => exact q1.elim
  | _ => exact q1.elim
def sSl (r : PyData → Option Int → Option Int → (S → Prop) → Prop) (ta : TEs) (tl th : TOs) : TEs := fun σs Q ES => ta σs (fun x σ1 => nd x.toD fun dx => tl σ1 (fun l σ2 => th σ2 (fun u σ3 => r dx l u fun z => Q z σ3) ES) ES) ES
variable {lo hi : Option Expr} {tl th : TOs} {p2 : Pos} 
theorem je_slice {r : PyData → Option Int → Option Int → (S → Prop) → Prop} (hr : SlOp X r) (ha : JE X ar b1 m1 a ta) (hl : JO X ar b2 lo tl) (hh : JO X ar b3 hi th) (hm : m1 = true ∨ (b2 && b3) = true := by first | exact Or.inl rfl | exact Or.inr rfl) :
    JE X ar (b1 && (b2 && b3)) true (.Subscript a (.Slice lo hi none p2) pos) (sSl r ta tl th) := by
  refine ⟨fun pins s σ I H F σs Q ES J st tx q => ?_⟩
  refine Subscript_ (thn (ha.run pins s σ I H F σs _ ES J st tx q) fun v s1 ⟨x, rx, R1, I1, H1, F1, σ1, h1, r1, q1⟩ => ?_)
  obtain ⟨dx, ex, q1⟩ := nd_some q1
  refine wpAny_Slice (thn (hl.run pins s1 σ I1 H1 F1 σ1 _ ES h1.inv h1.st (tx.go h1.base.evo fun _ z => z) q1) fun vl s2 ⟨l, I2, H2, F2, σ2, h2, pl, q2⟩ =>
    thn (hh.run pins s2 σ I2 H2 F2 σ2 _ ES h2.inv h2.st (tx.go (h1.base.then h2).evo fun _ z => z) q2) fun vu s3 ⟨u, I3, H3, F3, σ3, h3, pu, q3⟩ => ?_)
  rw [evalPart_none]
  refine wpAny_pure ?_
  have b23 := h2.then h3
  obtain ⟨sx, _, _, _⟩ := h1.over b23 hm
  have I4 : Inv X pins σ H3 { s3 with heap := s3.heap.push { cls := .type "slice", data := .fields #[vl, vu, .none] } } := h3.inv.kept (t' := s3.toks) fun b ob q => Heap.get?_push_of_some _ q
  obtain ⟨r2, hR, q4⟩ := hr I3 (fun z => Q z σ3) dx l u q3 x H3 h3.st.sub (sx.ar h3.st.sub ex)
  obtain ⟨T, id, hT, ht, hg⟩ := hR pins { s3 with heap := s3.heap.push { cls := .type "slice", data := .fields #[vl, vu, .none] } } σ H3 x v vl vu l u s3.heap.objs.size _ I4 r1 (Heap.IsSliceOf.new ..) pl pu q4
  show wpAny (model X.prog X.w) X.A (subscriptTail a (.Slice lo hi none p2) v (.ref s3.heap.objs.size)) _ X.xe { s3 with heap := s3.heap.push { cls := .type "slice", data := .fields #[vl, vu, .none] } }
  exact thn (tail_any (ops := [.ref s3.heap.objs.size, v]) ht hT hg (by with_unfolding_all rfl)) fun w s5 h5 => RP.of_vp (h1.base.then b23) h5
end
end SV
/-! SvF: calls of built-ins, by values. -/
namespace SV
open PySem PySem.Spec PyProof.Rows L2

section
variable {X : Cx} {ar : Nat → Option V} {a b c e : Expr} {b1 b2 b3 m1 m2 m3 : Bool} {ta tb tc : TEs} {pos : Pos} {es : List Expr} {tp : TPs}
/-- arguments that are read alone -/
def ARP (X : Cx) (ar : Nat → Option V) (pins : List (Addr × Obj)) (σ : L2.St) (b : Bool) (I H : Hp) (F : Nat → List Addr) (σs : SSt) (Q : List PyData → SSt → Prop) (us : List Value) (s' : Shared) : Prop :=
  ∃ vs ds I' H' F' σs', BPd X ar pins σ b I H F σs I' H' F' σs' s' ∧ Vals vs us ∧ ARs X.K I' H' vs ds ∧ Q ds σs'
structure JR (X : Cx) (ar : Nat → Option V) (b : Bool) (es : List Expr) (t : TPs) : Prop where
  run : ∀ (pos : Pos) (pins : List (Addr × Obj)) (s : Shared) (σ : L2.St) (I H : Hp) (F : Nat → List Addr) (σs : SSt) (Q : List PyData → SSt → Prop) (ES : XS), Inv X pins σ H s → StR X.K ar I H σ σs F → TX X ar I H (own F) ES → t σs Q ES →
    wpAny (model X.prog X.w) X.A (spliced (backTo pos (starEach es X.env))) (ARP X ar pins σ b I H F σs Q) X.xe s
theorem PRs.ars {K : PySem.W.Frag} {I H : Hp} (sb : Sub I H) : ∀ {vs : List V} {ds : List PyData}, PRs K I vs ds → ARs K I H vs ds
  | _, _, .nil => .nil
  | _, _, .cons h t => .cons (h.ar sb) (PRs.ars sb t)
theorem JA.jr (h : JA X ar b1 es tp) : JR X ar b1 es tp := ⟨fun pos pins s σ I H F σs Q ES J st tx q => thn (h.run pos pins s σ I H F σs Q ES J st tx q) fun us s1 ⟨vs, ds, I1, H1, F1, σ1, d, rv, p, q1⟩ => ⟨vs, ds, I1, H1, F1, σ1, d, rv, p.ars d.st.sub, q1⟩⟩
def pOne (t : TEs) : TPs := fun σs Q ES => t σs (fun r σ1 => nd r.toD fun d => Q [d] σ1) ES
theorem jr_one (h : JE X ar b1 m1 e ta) (hs : starEach [e] X.env = [(false, eval e X.env)] := by rfl) : JR X ar b1 [e] (pOne ta) := by
  refine ⟨fun pos pins s σ I H F σs Q ES J st tx q => ?_⟩
  rw [hs]
  show wpAny _ _ (spliced ((false, eval e X.env) :: backTo pos (starEach [] X.env))) _ _ s
  refine Calls.spliced_cons (thn (h.run pins s σ I H F σs _ ES J st tx q) fun v s1 ⟨x, rx, R1, I1, H1, F1, σ1, h1, r1, q1⟩ => ?_)
  obtain ⟨d, ex, q1⟩ := nd_some q1
  exact Calls.spliced_nil ⟨[x], [d], I1, H1, F1, σ1, h1.base, .cons r1 .nil, .cons (h1.sr.ar h1.st.sub ex) .nil, q1⟩

def sB (r : RNs) (t : TPs) : TEs := fun σs Q ES => t σs (fun ds σ1 => r ds fun z => Q z σ1) ES
theorem fin_vp {pins : List (Addr × Obj)} {σ : L2.St} {I H I1 H1 : Hp} {F F1 : Nat → List Addr} {σs σ1 : SSt} {s1 s2 : Shared} {Q : KS} {w : Value} (d : BPd X ar pins σ b1 I H F σs I1 H1 F1 σ1 s1)
    (h : EP X pins σ (VP X I1 H1 fun z => Q z σ1) w s2) : RP X ar pins σ b1 true I H F σs Q w s2 := RP.of_vp d h
/-- f(e, ..), f a built-in function -/
theorem je_callB {x : Str} {p : Pos} {id : String} {r : RNs} (hc : OpN X (fun us => call (.builtin id) us) r) (hg : Gl X x) (hm : X.mg x = none) (hv : bootBuiltins x = some (.builtin id)) (ha : JR X ar b1 (e :: es) tp) (hn : x ≠ "__name__" := by decide) (hdb : (x == ("__debug__" : Str)) = false := by decide)
    (he : starEach (e :: es) X.env = (false, eval e X.env) :: starEach es X.env := by rfl) (hpl : (backTo pos (starEach es X.env)).any (·.1) = false := by rfl) : JE X ar b1 true (.Call (.Name x p) (e :: es) [] pos) (sB r tp) := by
  refine ⟨fun pins s σ I H F σs Q ES J st tx q => ?_⟩
  refine wpAny_Call_Name_kw (ld_blt J hg hm hv ?_ hn hdb)
  refine PyProof.Rows.callWith_builtin1 (thn (ha.run pos pins s σ I H F σs _ ES J st tx q) fun us s1 ⟨vs, ds, I1, H1, F1, σ1, d, rv, pv, q1⟩ => ?_) he hpl
  exact thn (hc pins s1 σ H1 I1 vs us ds _ d.inv d.st.sub rv pv q1) fun w s2 h => fin_vp d h
/-- T(e, ..), T a built-in type -/
theorem je_callT {x : Str} {p : Pos} {T : String} {r : RNs} (hc : OpN X (fun us => call (.type T) us) r) (hg : Gl X x) (hm : X.mg x = none) (hv : bootBuiltins x = some (.type T)) (ha : JR X ar b1 (e :: es) tp) (hn : x ≠ "__name__" := by decide) (hdb : (x == ("__debug__" : Str)) = false := by decide)
    (he : starEach (e :: es) X.env = (false, eval e X.env) :: starEach es X.env := by rfl) (hpl : (backTo pos (starEach es X.env)).any (·.1) = false := by rfl) : JE X ar b1 true (.Call (.Name x p) (e :: es) [] pos) (sB r tp) := by
  refine ⟨fun pins s σ I H F σs Q ES J st tx q => ?_⟩
  refine wpAny_Call_Name_kw (ld_blt J hg hm hv ?_ hn hdb)
  refine PyProof.Rows.callWith_type1 (thn (ha.run pos pins s σ I H F σs _ ES J st tx q) fun us s1 ⟨vs, ds, I1, H1, F1, σ1, d, rv, pv, q1⟩ => ?_) he hpl
  exact thn (hc pins s1 σ H1 I1 vs us ds _ d.inv d.st.sub rv pv q1) fun w s2 h => fin_vp d h

/-! ### the built-ins -/
theorem ARs.one {K : PySem.W.Frag} {I H : Hp} {xs : List V} {d : PyData} (h : ARs K I H xs [d]) : ∃ x, xs = [x] ∧ AR K I H x d := by
  cases h with
  | cons a t => cases t; exact ⟨_, rfl, a⟩
theorem ARs.two {K : PySem.W.Frag} {I H : Hp} {xs : List V} {d d' : PyData} (h : ARs K I H xs [d, d']) : ∃ x y, xs = [x, y] ∧ AR K I H x d ∧ AR K I H y d' := by
  cases h with
  | cons a t =>
    obtain ⟨y, e, q⟩ := t.one
    subst e
    exact ⟨_, _, rfl, a, q⟩
theorem PRs.intsV {K : PySem.W.Frag} {I : Hp} : ∀ {ns : List Int} {vs : List V}, PRs K I vs (ns.map PyData.int) → vs = ns.map V.int
  | [], _, h => by cases h; rfl
  | n :: ns, _, h => by
    cases h with
    | cons a t =>
      cases a
      rw [PRs.intsV t]
      rfl
theorem PRs.blsV {K : PySem.W.Frag} {I : Hp} : ∀ {ns : List Bool} {vs : List V}, PRs K I vs (ns.map PyData.bool) → vs = ns.map V.bl
  | [], _, h => by cases h; rfl
  | n :: ns, _, h => by
    cases h with
    | cons a t =>
      cases a
      rw [PRs.blsV t]
      rfl
theorem PRs.strsV {K : PySem.W.Frag} {I : Hp} : ∀ {ns : List Str} {vs : List V}, PRs K I vs (ns.map PyData.str) → vs = ns.map V.str
  | [], _, h => by cases h; rfl
  | n :: ns, _, h => by
    cases h with
    | cons a t =>
      cases a
      rw [PRs.strsV t]
      rfl
def rLen : RNs
  | [.list xs], Q => Q (.val (.int xs.length))
  | [.tuple xs], Q => Q (.val (.int xs.length))
  | [.str x], Q => Q (.val (.int x.length))
  | _, _ => False
theorem c_len : OpN X (fun us => call (.builtin "len") us) rLen := by
  intro pins s σ H I xs us ds Q J sb rv pv q
  rcases ds with _ | ⟨d, _ | ⟨d2, dr⟩⟩
  · exact (show False from q).elim
  · obtain ⟨x, e, p⟩ := pv.one
    subst e
    cases p with
    | lst h p => exact call_len_seq pins s σ H _ us _ J rv ⟨_, _, rfl, .inl (SqL.of h), by rw [p.length]; exact .val sb (.int _) q⟩
    | tup h p => exact call_len_seq pins s σ H _ us _ J rv ⟨_, _, rfl, .inr (SqT.sub sb h), by rw [p.length]; exact .val sb (.int _) q⟩
    | str a h z => exact call_len_str pins s σ H _ us _ J rv ⟨a, rfl, z, .val sb (.int _) q⟩
    | _ => exact (show False from q).elim
  · cases d <;> exact (show False from q).elim
def rTuple : RNs
  | [.list xs], Q => Q (.val (.tuple xs))
  | [.tuple xs], Q => Q (.val (.tuple xs))
  | _, _ => False
theorem c_tuple : OpN X (fun us => call (.type "tuple") us) rTuple := by
  intro pins s σ H I xs us ds Q J sb rv pv q
  rcases ds with _ | ⟨d, _ | ⟨d2, dr⟩⟩
  · exact (show False from q).elim
  · obtain ⟨x, e, p⟩ := pv.one
    subst e
    cases p with
    | lst h p => exact call_tuple_of pins s σ H _ us _ J rv ⟨_, _, rfl, .inl ⟨SqL.of h, fun l hl => .newTup sb hl p q⟩⟩
    | tup h p => exact call_tuple_of pins s σ H _ us _ J rv ⟨_, _, rfl, .inr ⟨SqT.sub sb h, .val sb (.tup h p) q⟩⟩
    | _ => exact (show False from q).elim
  · cases d <;> exact (show False from q).elim
def rList : RNs
  | [.list xs], Q => Q (.lst xs)
  | [.tuple xs], Q => Q (.lst xs)
  | _, _ => False
theorem c_list : OpN X (fun us => call (.type "list") us) rList := by
  intro pins s σ H I xs us ds Q J sb rv pv q
  rcases ds with _ | ⟨d, _ | ⟨d2, dr⟩⟩
  · exact (show False from q).elim
  · obtain ⟨x, e, p⟩ := pv.one
    subst e
    cases p with
    | lst h p => exact call_list_of pins s σ H _ us _ J rv ⟨_, _, rfl, .inl (SqL.of h), fun l hl => .newLst sb hl p q⟩
    | tup h p => exact call_list_of pins s σ H _ us _ J rv ⟨_, _, rfl, .inr (SqT.sub sb h), fun l hl => .newLst sb hl p q⟩
    | _ => exact (show False from q).elim
  · cases d <;> exact (show False from q).elim
def rInt : RNs
  | [.int i], Q => Q (.val (.int i))
  | [.bool k], Q => Q (.val (.int (if k then 1 else 0)))
  | [.str x], Q => x.length ≤ 640 ∧ need (PySem.intText? x) fun n => Q (.val (.int n))
  | _, _ => False
theorem c_int : OpN X (fun us => call (.type "int") us) rInt := by
  intro pins s σ H I xs us ds Q J sb rv pv q
  rcases ds with _ | ⟨d, _ | ⟨d2, dr⟩⟩
  · exact (show False from q).elim
  · obtain ⟨x, e, p⟩ := pv.one
    subst e
    cases p with
    | int i => exact call_int1 pins s σ H _ us _ J rv (.inl ⟨i, rfl, .val sb (.int _) q⟩)
    | bl k => exact call_int1 pins s σ H _ us _ J rv (.inr ⟨k, rfl, .val sb (.int _) q⟩)
    | str x h z =>
      obtain ⟨hz, q⟩ := q
      obtain ⟨n, e, q⟩ := need_some q
      exact call_int_str pins s σ H _ us _ J rv ⟨x, n, rfl, e, hz, .val sb (.int _) q⟩
    | _ => exact (show False from q).elim
  · cases d <;> exact (show False from q).elim
/-- signs that a text may have -/
def okL (l : List Nat) : Prop := ∀ c ∈ l, c < 0x110000
theorem strOk_iff {x : Str} : PyData.strOk x = true ↔ okL x.cps.toList := by
  refine ⟨fun h c hc => ?_, fun h => Array.all_eq_true_iff_forall_mem.mpr fun c hc => ?_⟩
  · have := (Array.all_eq_true_iff_forall_mem.mp h) c (by simpa using hc)
    simpa using this
  · have := h c (by simpa using hc)
    simpa using this
theorem okL_chars (l : List Char) : okL (l.map Char.toNat) := fun c hc => by
  obtain ⟨ch, _, rfl⟩ := List.mem_map.mp hc
  have h := ch.valid
  have h2 : ch.toNat = ch.val.toNat := rfl
  rw [h2]
  rcases h with h | ⟨_, h⟩ <;> omega
theorem strOk_ofString (x : String) : PyData.strOk (Str.ofString x) = true := by
  rw [strOk_iff, Str.ofString_eq_toList]
  exact okL_chars x.toList
theorem okL_append {l l' : List Nat} (a : okL l) (b : okL l') : okL (l ++ l') := fun c hc => (List.mem_append.mp hc).elim (a c) (b c)
theorem okL_reprChar {q c : Nat} (hq : q < 0x110000) (hc : c < 0x110000) : okL (Builtin.Str.reprChar q c) := by
  have hx : ∀ n : Nat, okL (List.replicate n 48 ++ (Nat.toDigits 16 c).map Char.toNat) := fun n => okL_append (fun d hd => by
    rw [List.eq_of_mem_replicate hd]
    decide) (okL_chars _)
  have h2 : ∀ (a b : Nat), a < 0x110000 → b < 0x110000 → okL [a, b] := fun a b ha hb d hd => by
    rcases List.mem_cons.mp hd with rfl | hd
    · exact ha
    · rw [List.mem_singleton] at hd
      subst hd
      exact hb
  unfold Builtin.Str.reprChar
  dsimp only
  split
  · exact h2 _ _ (by decide) hc
  · split
    · exact h2 _ _ (by decide) (by decide)
    · split
      · exact h2 _ _ (by decide) (by decide)
      · split
        · exact h2 _ _ (by decide) (by decide)
        · split
          · intro d hd
            rw [List.mem_singleton] at hd
            subst hd
            exact hc
          · split
            · exact okL_append (h2 _ _ (by decide) (by decide)) (hx _)
            · split
              · exact okL_append (h2 _ _ (by decide) (by decide)) (hx _)
              · exact okL_append (h2 _ _ (by decide) (by decide)) (hx _)
theorem okL_fold {q : Nat} (hq : q < 0x110000) : ∀ (l : List Nat) (acc : Array Nat), okL l → okL acc.toList → okL (l.foldl (fun out c => out ++ (Builtin.Str.reprChar q c).toArray) acc).toList
  | [], _, _, h => h
  | c :: r, acc, hl, h => by
    refine okL_fold hq r _ (fun d hd => hl d (List.mem_cons_of_mem _ hd)) ?_
    rw [Array.toList_append]
    exact okL_append h (okL_reprChar hq (hl c List.mem_cons_self))
theorem strOk_reprText {x : Str} (h : PyData.strOk x = true) : PyData.strOk (reprText x) = true := by
  rw [strOk_iff] at h ⊢
  have hq : reprQuote x < 0x110000 := by
    unfold reprQuote
    split <;> decide
  unfold reprText
  rw [Array.toList_push]
  refine okL_append ?_ (fun d hd => ?_)
  · rw [← Array.foldl_toList]
    exact okL_fold hq _ _ h fun d hd => by
      rw [List.mem_singleton] at hd
      subst hd
      exact hq
  · rw [List.mem_singleton] at hd
    subst hd
    exact hq
theorem strOk_textFrom : ∀ (ts : List Str) (k : Nat) (acc : Str), (∀ t ∈ ts, PyData.strOk t = true) → PyData.strOk acc = true → PyData.strOk (textFrom k acc ts) = true
  | [], _, _, _, h => h
  | t :: ts, k, acc, hts, h => by
    unfold textFrom
    refine strOk_textFrom ts (k + 1) _ (fun u hu => hts u (List.mem_cons_of_mem _ hu)) (strOk_append (strOk_append h ?_) (hts t List.mem_cons_self))
    exact strOk_ofString _
theorem strOk_join {y : Str} (hy : PyData.strOk y = true) : ∀ ts : List Str, (∀ t ∈ ts, PyData.strOk t = true) → PyData.strOk (Str.join y ts) = true
  | [], _ => strOk_ofString ""
  | [x], h => h x (by simp)
  | x :: z :: r, h => by
    show PyData.strOk (x ++ y ++ Str.join y (z :: r)) = true
    exact strOk_append (strOk_append (h x (by simp)) hy) (strOk_join hy (z :: r) fun t ht => h t (List.mem_cons_of_mem _ ht))
mutual
theorem strOk_shown : ∀ {d : PyData}, d.canLay0 = true → PyData.strOk d.shown = true
  | .none, _ => by
    rw [PyData.shown]
    exact strOk_ofString _
  | .bool b, _ => by
    rw [PyData.shown]
    split <;> exact strOk_ofString _
  | .int i, _ => by
    rw [PyData.shown]
    exact strOk_ofString _
  | .str x, h => by
    rw [PyData.shown]
    exact strOk_reprText h
  | .list xs, h => by
    rw [PyData.shown]
    exact strOk_append (strOk_textFrom _ _ _ (strOk_shownAll (ds := xs) h) (strOk_ofString _)) (strOk_ofString _)
  | .tuple xs, h => by
    rw [PyData.shown]
    exact strOk_append (strOk_append (strOk_ofString _) (strOk_join (strOk_ofString _) _ (strOk_shownAll (ds := xs) h))) (strOk_ofString _)
  | .dict _, h => by cases h
theorem strOk_shownAll : ∀ {ds : List PyData}, PyData.canLayAll0 ds = true → ∀ t ∈ PyData.shownAll ds, PyData.strOk t = true
  | [], _, t, ht => by
    rw [PyData.shownAll] at ht
    cases ht
  | x :: xs, h, t, ht => by
    rw [PyData.canLayAll0, Bool.and_eq_true] at h
    rw [PyData.shownAll] at ht
    rcases List.mem_cons.mp ht with rfl | ht
    · exact strOk_shown h.1
    · exact strOk_shownAll h.2 t ht
end
def rStr : RNs
  | [.int i], Q => i.natAbs.log2 < 1920 ∧ Q (.val (.str (toString i)))
  | [.str x], Q => Q (.val (.str x))
  | _, _ => False
theorem c_str : OpN X (fun us => call (.type "str") us) rStr := by
  intro pins s σ H I xs us ds Q J sb rv pv q
  rcases ds with _ | ⟨d, _ | ⟨d2, dr⟩⟩
  · exact (show False from q).elim
  · obtain ⟨x, e, p⟩ := pv.one
    subst e
    cases p with
    | int i => exact call_str_int pins s σ H _ us _ J rv ⟨i, rfl, q.1, .val sb (.str _ (strOk_ofString _) (int_text_fits q.1)) q.2⟩
    | str x h z => exact SkE.call_str_str pins s σ H _ us _ J rv ⟨x, rfl, .val sb (.str x h z) q⟩
    | _ => exact (show False from q).elim
  · cases d <;> exact (show False from q).elim
/-- repr(x) can be asked -/
structure ReprOk (d : PyData) : Prop where
  sh : d.showable = true
  len : d.shown.length ≤ sizeLine
  dep : d.depth ≤ 60
mutual
/-- small ints, no dicts -/
def smI : PyData → Bool
  | .none | .bool _ | .str _ => true
  | .int i => decide (i.natAbs < 10 ^ 18)
  | .list xs | .tuple xs => smAll xs
  | .dict _ => false
def smAll : List PyData → Bool
  | [] => true
  | x :: xs => smI x && smAll xs
end
theorem log_small {i : Int} (h : i.natAbs < 10 ^ 18) : i.natAbs.log2 < 64 := by
  by_cases z : i.natAbs = 0
  · rw [z]
    decide
  · exact (Nat.log2_lt z).mpr (Nat.lt_trans h (by decide))
mutual
theorem smI_show : ∀ {d : PyData}, smI d = true → d.showable = true
  | .none, _ => by rw [PyData.showable]
  | .bool _, _ => by rw [PyData.showable]
  | .str _, _ => by rw [PyData.showable]
  | .int i, h => by
    rw [smI, decide_eq_true_eq] at h
    rw [PyData.showable, decide_eq_true_eq]
    have := log_small h
    omega
  | .list xs, h => by
    rw [smI] at h
    rw [PyData.showable]
    exact smAll_show h
  | .tuple xs, h => by
    rw [smI] at h
    rw [PyData.showable]
    exact smAll_show h
  | .dict _, h => by
    rw [smI] at h
    cases h
theorem smAll_show : ∀ {ds : List PyData}, smAll ds = true → PyData.showableAll ds = true
  | [], _ => by rw [PyData.showableAll]
  | x :: xs, h => by
    rw [smAll, Bool.and_eq_true] at h
    rw [PyData.showableAll, Bool.and_eq_true]
    exact ⟨smI_show h.1, smAll_show h.2⟩
end
mutual
theorem smI_short : ∀ {d : PyData}, d.canLay0 = true → smI d = true → d.leavesShort 24 = true
  | .none, _, _ => by rw [PyData.leavesShort]
  | .bool _, _, _ => by rw [PyData.leavesShort]
  | .str x, h, _ => by
    rw [PyData.leavesShort, List.all_eq_true]
    intro c hc
    have := strOk_iff.mp (show PyData.strOk x = true from h) c hc
    rw [decide_eq_true_eq]
    exact Nat.lt_trans this (by decide)
  | .int i, _, h => by
    rw [smI, decide_eq_true_eq] at h
    rw [PyData.leavesShort, decide_eq_true_eq, PyData.shown]
    have := PySem.int_text_length_le10 (a := i) (k := 18) (by decide) h
    show (Str.ofString (toString i)).length ≤ 24
    rw [PySem.ofString_length]
    omega
  | .list xs, h, h2 => by
    rw [smI] at h2
    rw [PyData.leavesShort]
    exact smAll_short (show PyData.canLayAll0 xs = true from h) h2
  | .tuple xs, h, h2 => by
    rw [smI] at h2
    rw [PyData.leavesShort]
    exact smAll_short (show PyData.canLayAll0 xs = true from h) h2
  | .dict _, _, h2 => by
    rw [smI] at h2
    cases h2
theorem smAll_short : ∀ {ds : List PyData}, PyData.canLayAll0 ds = true → smAll ds = true → PyData.leavesShortAll 24 ds = true
  | [], _, _ => by rw [PyData.leavesShortAll]
  | x :: xs, h, h2 => by
    rw [PyData.canLayAll0, Bool.and_eq_true] at h
    rw [smAll, Bool.and_eq_true] at h2
    rw [PyData.leavesShortAll, Bool.and_eq_true]
    exact ⟨smI_short h.1 h2.1, smAll_short h.2 h2.2⟩
end
/-- small enough to be shown -/
structure ReprS (d : PyData) : Prop where
  sm : smI d = true
  bk : d.bulk ≤ 600000
  dep : d.depth ≤ 60
theorem ReprS.ok {d : PyData} (h : ReprS d) (l : d.canLay0 = true) : ReprOk d :=
  ⟨smI_show h.sm, by
    have := PyData.shown_le_bulk 24 (by decide) d (smI_short l h.sm)
    have := h.bk
    have : (16000000 : Nat) ≤ sizeLine := by decide
    omega, h.dep⟩
def rRepr : RNs
  | [d], Q => ReprS d ∧ Q (.val (.str d.shown))
  | _, _ => False
theorem c_repr (hg : X.A.guards = some []) (hu : X.A.units + 64 < cLine) : OpN X (fun us => call (.builtin "repr") us) rRepr := by
  intro pins s σ H I xs us ds Q J sb rv pv q
  rcases ds with _ | ⟨d, _ | ⟨d2, dr⟩⟩
  · exact (show False from q).elim
  · obtain ⟨x, e, p⟩ := pv.one
    subst e
    obtain ⟨u, rfl, ru⟩ := vals1 rv
    obtain ⟨hr0, q⟩ := q
    have hr := hr0.ok p.canLay
    have hok := strOk_shown p.canLay
    have fin : ∀ (s' : Shared) (t : Tok), Inv X pins σ H s' → EP X pins σ (VP X I H Q) (.str d.shown t) s' := fun s' t J' => ⟨.str d.shown, H, J', ⟨t, rfl⟩, .val sb (.str _ hok hr.len) q⟩
    obtain ⟨as, rd⟩ := p.reads J sb ru
    have hl := hr.len
    cases p with
    | non =>
      cases ru
      simp only [PyData.shown] at fin
      exact PySem.P.repr_of_none (fin _ _ (J.tok _))
    | bl b =>
      cases ru
      simp only [PyData.shown] at fin
      exact PySem.P.repr_of_bool (fin _ _ (J.tok _))
    | int i =>
      obtain ⟨t, rfl⟩ := ru
      simp only [PyData.shown] at fin
      have hs := hr.sh
      rw [PyData.showable, decide_eq_true_eq] at hs
      exact PySem.P.repr_of_int hs (fin _ _ (J.tok _))
    | str x h z =>
      obtain ⟨t, rfl⟩ := ru
      simp only [PyData.shown] at fin hl
      exact PySem.P.repr_of_str (fin _ _ (J.tok _)) hl
    | tup h p =>
      cases ru
      exact repr_of_reads' rd hr.sh (PyData.noDict_hsm (PyData.hasDict_of_canLay _ (AR.tup (H := H) h p).canLay)) hg (by have := hr.dep; omega) (fun _ _ z => z) (fun h' u tk k => fin _ _ (J.kept k)) hl
    | lst h p =>
      cases ru
      exact repr_of_reads' rd hr.sh (PyData.noDict_hsm (PyData.hasDict_of_canLay _ (AR.lst (I := I) (H := H) h p).canLay)) hg (by have := hr.dep; omega) (fun _ _ z => z) (fun h' u tk k => fin _ _ (J.kept k)) hl
  · exact (show False from q).elim
end
end SV
/-! SvG: built-ins over lists; methods of built-in types; methods that change an own list. -/
namespace SV
open PySem PySem.Spec PyProof.Rows L2

/-! ### lists of one kind -/
def intsOf : List PyData → Option (List Int)
  | [] => some []
  | .int i :: r => (intsOf r).map (i :: ·)
  | _ :: _ => none
def boolsOf : List PyData → Option (List Bool)
  | [] => some []
  | .bool i :: r => (boolsOf r).map (i :: ·)
  | _ :: _ => none
def strsOf : List PyData → Option (List Str)
  | [] => some []
  | .str i :: r => (strsOf r).map (i :: ·)
  | _ :: _ => none
theorem intsOf_map : ∀ ns : List Int, intsOf (ns.map .int) = some ns
  | [] => rfl
  | n :: r => by
    show (intsOf (r.map .int)).map (n :: ·) = _
    rw [intsOf_map r]
    rfl
theorem boolsOf_map : ∀ ns : List Bool, boolsOf (ns.map .bool) = some ns
  | [] => rfl
  | n :: r => by
    show (boolsOf (r.map .bool)).map (n :: ·) = _
    rw [boolsOf_map r]
    rfl
theorem strsOf_map : ∀ ns : List Str, strsOf (ns.map .str) = some ns
  | [] => rfl
  | n :: r => by
    show (strsOf (r.map .str)).map (n :: ·) = _
    rw [strsOf_map r]
    rfl
theorem intsOf_inv : ∀ {ds : List PyData} {ns : List Int}, intsOf ds = some ns → ds = ns.map .int
  | [], ns, h => by cases h; rfl
  | d :: r, ns, h => by
    cases d with
    | int i =>
      obtain ⟨ms, e, rfl⟩ := Option.map_eq_some_iff.mp (show (intsOf r).map (i :: ·) = some ns from h)
      rw [intsOf_inv e]
      rfl
    | _ => cases h
theorem boolsOf_inv : ∀ {ds : List PyData} {ns : List Bool}, boolsOf ds = some ns → ds = ns.map .bool
  | [], ns, h => by cases h; rfl
  | d :: r, ns, h => by
    cases d with
    | bool i =>
      obtain ⟨ms, e, rfl⟩ := Option.map_eq_some_iff.mp (show (boolsOf r).map (i :: ·) = some ns from h)
      rw [boolsOf_inv e]
      rfl
    | _ => cases h
theorem strsOf_inv : ∀ {ds : List PyData} {ns : List Str}, strsOf ds = some ns → ds = ns.map .str
  | [], ns, h => by cases h; rfl
  | d :: r, ns, h => by
    cases d with
    | str i =>
      obtain ⟨ms, e, rfl⟩ := Option.map_eq_some_iff.mp (show (strsOf r).map (i :: ·) = some ns from h)
      rw [strsOf_inv e]
      rfl
    | _ => cases h

section
variable {X : Cx}
def rSum : RNs
  | [.list xs], Q => need (intsOf xs) fun ns => Q (.val (.int ns.sum))
  | _, _ => False
theorem c_sum (hc : X.calm = true) : OpN X (fun us => call (.builtin "sum") us) rSum := by
  intro pins s σ H I xs us ds Q J sb rv pv q
  rcases ds with _ | ⟨d, _ | ⟨d2, dr⟩⟩
  · exact (show False from q).elim
  · obtain ⟨x, e, p⟩ := pv.one
    subst e
    cases p with
    | lst h p =>
      obtain ⟨ns, e, q2⟩ := need_some q
      have e := intsOf_inv e
      subst e
      rw [p.intsV] at h
      exact cr_sum hc pins s σ H _ us _ J rv ⟨_, ns, rfl, SqL.of h, .val sb (.int _) q2⟩
    | _ => exact (show False from q).elim
  · cases d <;> exact (show False from q).elim
def rAny : RNs
  | [.list xs], Q => need (boolsOf xs) fun ns => Q (.val (.bool (ns.any id)))
  | _, _ => False
def rAll : RNs
  | [.list xs], Q => need (boolsOf xs) fun ns => Q (.val (.bool (ns.all id)))
  | _, _ => False
theorem c_any (hc : X.calm = true) : OpN X (fun us => call (.builtin "any") us) rAny := by
  intro pins s σ H I xs us ds Q J sb rv pv q
  rcases ds with _ | ⟨d, _ | ⟨d2, dr⟩⟩
  · exact (show False from q).elim
  · obtain ⟨x, e, p⟩ := pv.one
    subst e
    cases p with
    | lst h p =>
      obtain ⟨ns, e, q2⟩ := need_some q
      have e := boolsOf_inv e
      subst e
      rw [p.blsV] at h
      exact cr_any hc pins s σ H _ us _ J rv ⟨_, ns, rfl, SqL.of h, .val sb (.bl _) q2⟩
    | _ => exact (show False from q).elim
  · cases d <;> exact (show False from q).elim
theorem c_all (hc : X.calm = true) : OpN X (fun us => call (.builtin "all") us) rAll := by
  intro pins s σ H I xs us ds Q J sb rv pv q
  rcases ds with _ | ⟨d, _ | ⟨d2, dr⟩⟩
  · exact (show False from q).elim
  · obtain ⟨x, e, p⟩ := pv.one
    subst e
    cases p with
    | lst h p =>
      obtain ⟨ns, e, q2⟩ := need_some q
      have e := boolsOf_inv e
      subst e
      rw [p.blsV] at h
      exact cr_all hc pins s σ H _ us _ J rv ⟨_, ns, rfl, SqL.of h, .val sb (.bl _) q2⟩
    | _ => exact (show False from q).elim
  · cases d <;> exact (show False from q).elim
def rMax2 : RNs
  | [.int i, .int j], Q => Q (.val (.int (if j > i then j else i)))
  | _, _ => False
def rMin2 : RNs
  | [.int i, .int j], Q => Q (.val (.int (if j < i then j else i)))
  | _, _ => False
theorem c_max2 (hc : X.calm = true) : OpN X (fun us => call (.builtin "max") us) rMax2 := by
  intro pins s σ H I xs us ds Q J sb rv pv q
  rcases ds with _ | ⟨d, _ | ⟨d2, _ | ⟨d3, dr⟩⟩⟩
  · exact (show False from q).elim
  · cases d <;> exact (show False from q).elim
  · obtain ⟨x, y, e, p, p'⟩ := pv.two
    subst e
    cases p with
    | int i =>
      cases p' with
      | int j => exact call_max2 hc pins s σ H _ us _ J rv ⟨i, j, rfl, .val sb (.int _) q⟩
      | _ => exact (show False from q).elim
    | _ => exact (show False from q).elim
  · cases d <;> cases d2 <;> exact (show False from q).elim
theorem c_min2 (hc : X.calm = true) : OpN X (fun us => call (.builtin "min") us) rMin2 := by
  intro pins s σ H I xs us ds Q J sb rv pv q
  rcases ds with _ | ⟨d, _ | ⟨d2, _ | ⟨d3, dr⟩⟩⟩
  · exact (show False from q).elim
  · cases d <;> exact (show False from q).elim
  · obtain ⟨x, y, e, p, p'⟩ := pv.two
    subst e
    cases p with
    | int i =>
      cases p' with
      | int j => exact call_min2 hc pins s σ H _ us _ J rv ⟨i, j, rfl, .val sb (.int _) q⟩
      | _ => exact (show False from q).elim
    | _ => exact (show False from q).elim
  · cases d <;> cases d2 <;> exact (show False from q).elim
/-- sorted(xs) -/
noncomputable def sortD (ds : List PyData) : List PyData := ds.mergeSort (PySem.W.dataLe false fun d => d)
structure SortOk (ds : List PyData) : Prop where
  al : PySem.W.AllAlike ds
  so : PySem.W.Sortable ds
  dep : ∀ d ∈ ds, d.depth ≤ 60
def rSorted : RNs
  | [.list xs], Q => SortOk xs ∧ Q (.lst (sortD xs))
  | _, _ => False
theorem each_of {K : PySem.W.Frag} {I : Hp} : ∀ {vs : List V} {us : List Value} {ds : List PyData}, Vals vs us → PRs K I vs ds → PySem.W.EachIs (fun u d => ∃ v, RelV v u ∧ PR K I v d) us ds
  | _, _, _, .nil, .nil => .nil
  | _, _, _, .cons r t, .cons p q => .cons ⟨_, r, p⟩ (each_of t q)
theorem of_each {K : PySem.W.Frag} {I : Hp} : ∀ {us : List Value} {ds : List PyData}, PySem.W.EachIs (fun u d => ∃ v, RelV v u ∧ PR K I v d) us ds → ∃ vs, Vals vs us ∧ PRs K I vs ds
  | _, _, .nil => ⟨[], .nil, .nil⟩
  | _, _, .cons ⟨v, r, p⟩ t => let ⟨vs, a, b⟩ := of_each t; ⟨v :: vs, .cons r a, .cons p b⟩
theorem sortD_length (ds : List PyData) : (sortD ds).length = ds.length := by
  unfold sortD
  exact List.length_mergeSort ds
theorem c_sorted (hu : X.A.units + 64 < cLine) : OpN X (fun us => call (.builtin "sorted") us) rSorted := by
  intro pins s σ H I xs us ds Q J sb rv pv q
  rcases ds with _ | ⟨d, _ | ⟨d2, dr⟩⟩
  · exact (show False from q).elim
  · obtain ⟨x, e, p⟩ := pv.one
    subst e
    obtain ⟨u, rfl, ru⟩ := vals1 rv
    cases p with
    | @lst a vs ds h p =>
      cases ru
      obtain ⟨ok, q⟩ := q
      obtain ⟨its, rvs, pl, hz⟩ := J.list (SqL.of (K := X.K) h)
      have eb := each_of rvs p
      refine PySem.W.sorted_data (vs := its) (enc := fun d => d) pl.isList eb (eb.mono fun u d ⟨v, r, pr⟩ => pr.reads J sb r) (by rw [List.map_id']; exact ok.al) (by rw [List.map_id']; exact ok.so) (by rw [← p.length]; exact hz) (fun b hb => by have := ok.dep b hb; omega) fun out hl eo => ?_
      obtain ⟨ws, rws, pws⟩ := of_each eo
      obtain ⟨ep, he⟩ := sortedAll_at s.heap its out.toArray
      have hlen : ws.length ≤ sizeLine := by rw [rws.length, hl, ← p.length]; exact hz
      exact ⟨.ref _, upd H (s.heap.objs.size + 1) (.lst ws), J.laid (t' := s.toks) (fun _ _ => sortedAll_old) (Nat.le_succ _) ⟨hlen, out, ep, rws, he⟩, rfl, .newLst sb (J.hok.fresh (Nat.le_succ _)) pws q⟩
    | _ => exact (show False from q).elim
  · cases d <;> exact (show False from q).elim
end

/-! ### methods of a value of a built-in type -/
abbrev RMs := PyData → RNs
def MOp (X : Cx) (id : String) (r : RMs) : Prop :=
  ∀ (pins : List (Addr × Obj)) (s : Shared) (σ : L2.St) (H I : Hp) (x : V) (xs : List V) (v : Value) (us : List Value) (d : PyData) (ds : List PyData) (Q : S → Prop), Inv X pins σ H s → Sub I H → RelV x v → Vals xs us → AR X.K I H x d → ARs X.K I H xs ds → r d ds Q →
    wpAny (model X.prog X.w) X.A (call (.builtin id) (v :: us)) (EP X pins σ (VP X I H Q)) X.xe s
/-- the built-in type of data -/
def tyD (T : String) : PyData → Prop
  | .str _ => T = "str"
  | .list _ => T = "list"
  | .int _ => T = "int"
  | _ => False
theorem AR.ty {K : PySem.W.Frag} {I H : Hp} {T : String} {x : V} {d : PyData} (h : AR K I H x d) (t : tyD T d) : tyV K T x H := by
  cases h with
  | str => exact t
  | int => exact t
  | lst h _ => exact .inl ⟨t, _, SqL.of h⟩
  | _ => exact t.elim
def sM (T : String) (r : RMs) (to : TEs) (tp : TPs) : TEs := fun σs Q ES => to σs (fun x σ1 => nd x.toD fun d => tyD T d ∧ tp σ1 (fun ds σ2 => r d ds fun z => Q z σ2) ES) ES
section
variable {X : Cx} {ar : Nat → Option V} {o e : Expr} {es : List Expr} {b1 b2 b3 m1 m2 : Bool} {to : TEs} {tp : TPs} {name : Str} {apos cpos : Pos} {T id : String} {r : RMs}
theorem je_meth (pa : PlainAttrs T) (slot : Slot T name id) (hty : typeOf (.builtin id) = pure (.type "method_descriptor")) (hm : MOp X id r) (ho : JE X ar b1 m1 o to) (ha : JA X ar b2 (e :: es) tp) (hv : m1 = true ∨ b2 = true := by first | exact Or.inl rfl | exact Or.inr rfl)
    (hbase : attributeBase o name X.env (eval o X.env) = eval o X.env := by rfl)
    (hfew : ((backTo cpos (starEach (e :: es) X.env)).all (fun x => !x.1) && (backToKw cpos (keywordEach [] X.env)).all (fun x => x.1.isSome)
      && decide ((e :: es).length + ([] : List Keyword).length + (if ([] : List Keyword).isEmpty then 0 else 1) < 30)) = true := by rfl)
    (hline : (apos.endLine == cpos.line) = true := by rfl) (hs : starEach (e :: es) X.env = (false, eval e X.env) :: starEach es X.env := by rfl) (hplain : (backTo cpos (starEach es X.env)).any (·.1) = false := by rfl) :
    JE X ar (b1 && b2) true (.Call (.Attribute o name apos) (e :: es) [] cpos) (sM T r to tp) := by
  refine ⟨fun pins s σ I H F σs Q ES J st tx q => ?_⟩
  refine wpAny_Call_method_late hbase hfew hline rfl (thn (ho.run pins s σ I H F σs _ ES J st tx q) fun v s1 ⟨x, rx, R1, I1, H1, F1, σ1, h1, r1, q1⟩ => ?_)
  obtain ⟨d, ex, ty, q1⟩ := nd_some q1
  obtain ⟨t1, t2⟩ := tyV_is h1.inv r1 ((h1.sr.ar h1.st.sub ex).ty ty)
  refine ⟨T, id, pa, slot, hty, t1, t2, ?_⟩
  have hA := ha.run cpos pins s1 σ I1 H1 F1 σ1 _ ES h1.inv h1.st (tx.go h1.base.evo fun _ z => z) q1
  rw [hs] at hA ⊢
  refine Calls.callWith_builtin (by show (false || (backTo cpos (starEach es X.env)).any (·.1)) = false; rw [hplain] <;> rfl) (Calls.evalArgs_plain ?_)
  refine thn hA fun us s2 ⟨vs, ds, I2, H2, F2, σ2, d2, rv, pv, q2⟩ => ?_
  obtain ⟨sx, _, _, _⟩ := h1.over d2 hv
  exact thn (hm pins s2 σ H2 I2 x vs v us d ds _ d2.inv d2.st.sub r1 rv (sx.ar d2.st.sub ex) (pv.ars d2.st.sub) q2) fun w s3 h => RP.of_vp (h1.base.then d2) h
theorem je_meth0 (pa : PlainAttrs T) (slot : Slot T name id) (hty : typeOf (.builtin id) = pure (.type "method_descriptor")) (hm : MOp X id r) (ho : JE X ar b1 m1 o to)
    (hbase : attributeBase o name X.env (eval o X.env) = eval o X.env := by rfl) (hline : (apos.endLine == cpos.line) = true := by rfl) : JE X ar b1 true (.Call (.Attribute o name apos) [] [] cpos) (sM T r to pNil) := by
  refine ⟨fun pins s σ I H F σs Q ES J st tx q => ?_⟩
  refine wpAny_Call_method0_late hbase hline (thn (ho.run pins s σ I H F σs _ ES J st tx q) fun v s1 ⟨x, rx, R1, I1, H1, F1, σ1, h1, r1, q1⟩ => ?_)
  obtain ⟨d, ex, ty, q1⟩ := nd_some q1
  obtain ⟨t1, t2⟩ := tyV_is h1.inv r1 ((h1.sr.ar h1.st.sub ex).ty ty)
  exact ⟨T, id, pa, slot, hty, t1, t2, Calls.callWith_builtin rfl (PySem.evalArgs_none (thn (hm pins s1 σ H1 I1 x [] v [] d [] _ h1.inv h1.st.sub r1 .nil (h1.sr.ar h1.st.sub ex) .nil q1) fun w s3 h => RP.of_vp h1.base h))⟩
end

section
variable {X : Cx}
def rJoin : RMs
  | .str a, [.list xs], Q => need (strsOf xs) fun ys => (ys.map (·.length)).sum + ys.length * a.length ≤ 16777216 ∧ Q (.val (.str (Txt.join a ys)))
  | _, _, _ => False
theorem join_len (a : Str) : ∀ ys : List Str, (Str.join a ys).length ≤ (ys.map (·.length)).sum + ys.length * a.length
  | [] => Nat.zero_le _
  | [x] => by
    show x.length ≤ _
    simp
  | x :: z :: r => by
    have ih := join_len a (z :: r)
    show (x ++ a ++ Str.join a (z :: r)).length ≤ _
    rw [str_append_length, str_append_length]
    simp only [List.map_cons, List.sum_cons, List.length_cons, Nat.succ_mul, Nat.add_mul] at ih ⊢
    omega
theorem join_eq (a : Str) (ys : List Str) : Txt.join a ys = Str.join a ys := StrLaws.glued_eq_join a ys
theorem PRs.strsOk {K : PySem.W.Frag} {I : Hp} : ∀ {vs : List V} {ys : List Str}, PRs K I vs (ys.map .str) → ∀ t ∈ ys, PyData.strOk t = true ∧ t.length ≤ sizeLine
  | _, [], _, t, ht => by cases ht
  | _, y :: r, h, t, ht => by
    cases h with
    | cons a b =>
      rcases List.mem_cons.mp ht with rfl | ht
      · cases a with
        | str _ h1 h2 => exact ⟨h1, h2⟩
      · exact PRs.strsOk b t ht
theorem m_join : MOp X "str.join" rJoin := by
  intro pins s σ H I x xs v us d ds Q J sb rx rv p pv q
  cases p with
  | str a ha za =>
    rcases ds with _ | ⟨d, _ | ⟨d2, dr⟩⟩
    · exact (show False from q).elim
    · obtain ⟨y, e, p⟩ := pv.one
      subst e
      cases p with
      | lst h p =>
        obtain ⟨ys, e, hz, q2⟩ := need_some q
        have e := strsOf_inv e
        subst e
        have hok := p.strsOk
        rw [p.strsV] at h
        exact mt_join pins s σ H _ _ v us _ J rx rv ⟨a, _, ys, rfl, rfl, .inl (SqL.of h), hz, .val sb (.str _ (by rw [join_eq]; exact strOk_join ha ys fun t ht => (hok t ht).1) (by rw [join_eq, sizeLine_eq]; exact Nat.le_trans (join_len a ys) hz)) q2⟩
      | _ => exact (show False from q).elim
    · cases d <;> exact (show False from q).elim
  | _ => exact (show False from q).elim
end
end SV
/-! SvH: methods that change an own list; what a def promises; its call. -/
namespace SV
open PySem PySem.Spec PyProof.Rows L2

/-! ### an own list is changed -/
section
variable {K : PySem.W.Frag} {ar : Nat → Option V} {I H : Hp} {σ : L2.St} {σs : SSt} {F : Nat → List Addr}
theorem SR.lst_inv {v : V} {ds : List PyData} {R : List Addr} (h : SR K I H v (.lst ds) R) : ∃ a vs, v = .ref a ∧ R = [a] ∧ H a = some (.lst vs) ∧ PRs K I vs ds := by
  generalize e : S.lst ds = r at h
  cases h with
  | val => cases e
  | lst h p => cases e; exact ⟨_, _, rfl, rfl, h, p⟩
  | scr => cases e
  | adr => cases e
  | ins => cases e
theorem StR.mutate (h : StR K ar I H σ σs F) {i : Nat} {a : Addr} {ds ds' : List PyData} {ws : List V} (q : gets σs i = some (.lst ds)) (ev : σ[i]? = some (some (.ref a))) (eF : F i = [a]) (p : PRs K I ws ds') :
    StR K ar I (upd H a (.lst ws)) σ (sets σs i (some (.lst ds'))) F ∧ Evo I H (own F) I (upd H a (.lst ws)) (own F) := by
  have ia : I a = none := h.notI i a (by rw [eF]; simp)
  have ha : ∃ x, H a = some x := h.there ⟨i, by rw [eF]; simp⟩
  have out : ∀ b, (¬ b = a) → upd H a (.lst ws) b = H b := fun b n => upd_ne n
  refine ⟨⟨fun b x e => ?_, fun j r' q' => ?_, fun j q' => ?_, h.dis, h.notI, fun j w r' hj q' => ?_, by rw [sets_length]; exact h.len⟩, ⟨.refl I, fun b x e n => ?_, fun b m => .inl m, fun b x e => .inl e⟩⟩
  · have n : ¬ b = a := fun z => by rw [z, ia] at e; cases e
    rw [out b n]
    exact h.sub b x e
  · by_cases hj : j = i
    · subst hj
      rw [gets_sets_same (gets_some_lt q)] at q'
      cases q'
      refine ⟨_, ev, ?_⟩
      rw [eF]
      exact .lst upd_same p
    · rw [gets_sets_ne hj] at q'
      obtain ⟨w, e2, r2⟩ := h.rep j r' q'
      refine ⟨w, e2, r2.keep (.refl I) fun b m x e => ?_⟩
      have n : ¬ b = a := fun z => by
        subst z
        exact hj (h.dis j i b m (by rw [eF]; simp))
      rw [out b n]
      exact e
  · have hj : j ≠ i := fun e => by
      rw [e, gets_sets_same (gets_some_lt q)] at q'
      cases q'
    rw [gets_sets_ne hj] at q'
    exact h.non j q'
  · by_cases hji : j = i
    · subst hji
      rcases h.par j w _ hj q with ⟨d, e⟩ | e
      · cases e
      · exact .inr e
    · rw [gets_sets_ne hji] at q'
      exact h.par j w r' hj q'
  · have nb : ¬ b = a := fun z => n ⟨i, by rw [eF, z]; simp⟩
    rw [out b nb]
    exact e
end

abbrev RMut := List PyData → List PyData → (PyData → List PyData → Prop) → Prop
def MutOp (X : Cx) (id : String) (r : RMut) : Prop :=
  ∀ (pins : List (Addr × Obj)) (s : Shared) (σ : L2.St) (H I : Hp) (a : Addr) (vs xs : List V) (us : List Value) (ds es : List PyData) (Q : PyData → List PyData → Prop), Inv X pins σ H s → Sub I H → H a = some (.lst vs) → PRs X.K I vs ds → Vals xs us → PRs X.K I xs es → r ds es Q →
    wpAny (model X.prog X.w) X.A (call (.builtin id) (.ref a :: us)) (EP X pins σ fun v H' => ∃ ws ds' d, H' = upd H a (.lst ws) ∧ PRs X.K I ws ds' ∧ PR X.K I v d ∧ Q d ds') X.xe s
def sMut (i : Nat) (r : RMut) (tp : TPs) : TEs := fun σs Q ES => match gets σs i with
  | some (.lst _) => tp σs (fun es σ1 => match gets σ1 i with
    | some (.lst ds) => r ds es fun d ds' => Q (.val d) (sets σ1 i (some (.lst ds')))
    | _ => False) ES
  | _ => False
section
variable {X : Cx} {ar : Nat → Option V} {o e : Expr} {es : List Expr} {b1 b2 b3 m1 m2 : Bool} {to : TEs} {tp : TPs} {name x : Str} {npos apos cpos : Pos} {id : String} {r : RMut}
theorem mut_end {i : Nat} {Q : KS} {pins : List (Addr × Obj)} {σ : L2.St} {I H I1 H1 : Hp} {F F1 : Nat → List Addr} {σs σ1 : SSt} {s1 s2 : Shared} {w : Value} {a : Addr} {ds : List PyData} (d : BPd X ar pins σ b1 I H F σs I1 H1 F1 σ1 s1)
    (g : gets σ1 i = some (.lst ds)) (ev : σ[i]? = some (some (.ref a))) (eF : F1 i = [a])
    (h : EP X pins σ (fun v H' => ∃ ws ds' d, H' = upd H1 a (.lst ws) ∧ PRs X.K I1 ws ds' ∧ PR X.K I1 v d ∧ Q (.val d) (sets σ1 i (some (.lst ds')))) w s2) : RP X ar pins σ false true I H F σs Q w s2 := by
  obtain ⟨v, H2, J2, rv, ws, ds', dd, eH, pw, pd, q⟩ := h
  subst eH
  obtain ⟨st2, ev2⟩ := d.st.mutate g ev eF pw
  exact ⟨v, .val dd, [], I1, _, F1, _, ⟨J2, (d.evo.trans ev2 (fun _ z => z) fun c z => by
    rcases z with z | z
    · cases z
    · exact .inr z), st2, .val pd, fun _ b m => absurd m (by simp), fun b m => absurd m (by simp), (fun z => Bool.noConfusion z)⟩, rv, q⟩
theorem je_mut (i : Nat) (slot : Slot "list" name id) (hty : typeOf (.builtin id) = pure (.type "method_descriptor")) (hm : MutOp X id r) (ha : JA X ar b2 (e :: es) tp)
    (hN : X.N[i]? = some x := by rfl) (hv : Vis X.env.scope x := by first | exact Or.inl rfl | exact Or.inr (Or.inl rfl) | exact Or.inr (Or.inr rfl)) (hd : (x == ("__debug__" : Str)) = false := by decide) (hcd : (x == ("__classdict__" : Str)) = false := by decide)
    (hbase : attributeBase (.Name x npos) name X.env (eval (.Name x npos) X.env) = eval (.Name x npos) X.env := by rfl)
    (hfew : ((backTo cpos (starEach (e :: es) X.env)).all (fun x => !x.1) && (backToKw cpos (keywordEach [] X.env)).all (fun x => x.1.isSome)
      && decide ((e :: es).length + ([] : List Keyword).length + (if ([] : List Keyword).isEmpty then 0 else 1) < 30)) = true := by rfl)
    (hline : (apos.endLine == cpos.line) = true := by rfl) (hs : starEach (e :: es) X.env = (false, eval e X.env) :: starEach es X.env := by rfl) (hplain : (backTo cpos (starEach es X.env)).any (·.1) = false := by rfl) :
    JE X ar false true (.Call (.Attribute (.Name x npos) name apos) (e :: es) [] cpos) (sMut i r tp) := by
  refine ⟨fun pins s σ I H F σs Q ES J st tx q => ?_⟩
  unfold sMut at q
  cases g0 : gets σs i with
  | none => rw [g0] at q; exact q.elim
  | some r0 =>
    rw [g0] at q
    cases r0 with
    | lst ds0 =>
      obtain ⟨v, e1, sr⟩ := st.rep i _ g0
      obtain ⟨a, vs0, rfl, eF0, hH0, p0⟩ := sr.lst_inv
      refine wpAny_Call_method_late hbase hfew hline rfl (eval_name J hN hv e1 hd hcd fun u s1 J1 ru => ?_)
      obtain ⟨t1, t2⟩ := tyV_is (T := "list") J1 ru (.inl ⟨rfl, _, SqL.of hH0⟩)
      refine ⟨"list", id, PySem.F.plainAttrs_list, slot, hty, t1, t2, ?_⟩
      have hA := ha.run cpos pins s1 σ I H F σs _ ES J1 st tx q
      rw [hs] at hA ⊢
      refine Calls.callWith_builtin (by show (false || (backTo cpos (starEach es X.env)).any (·.1)) = false; rw [hplain] <;> rfl) (Calls.evalArgs_plain ?_)
      refine thn hA fun us s2 ⟨vs, ds, I2, H2, F2, σ2, d2, rv, pv, q2⟩ => ?_
      dsimp only at q2
      cases g2 : gets σ2 i with
      | none => rw [g2] at q2; exact q2.elim
      | some r2 =>
        rw [g2] at q2
        cases r2 with
        | lst ds2 =>
          obtain ⟨v2, e2, sr2⟩ := d2.st.rep i _ g2
          obtain ⟨a2, vs2, rfl, eF2, hH2, p2⟩ := sr2.lst_inv
          rw [e1] at e2
          cases e2
          cases ru
          exact thn (hm pins s2 σ H2 I2 a vs2 vs us ds2 ds _ d2.inv d2.st.sub hH2 p2 rv pv q2) fun w s3 h => mut_end d2 g2 e1 eF2 h
        | _ => exact q2.elim
    | _ => exact q.elim
theorem je_mut0 (i : Nat) (slot : Slot "list" name id) (hty : typeOf (.builtin id) = pure (.type "method_descriptor")) (hm : MutOp X id r)
    (hN : X.N[i]? = some x := by rfl) (hv : Vis X.env.scope x := by first | exact Or.inl rfl | exact Or.inr (Or.inl rfl) | exact Or.inr (Or.inr rfl)) (hd : (x == ("__debug__" : Str)) = false := by decide) (hcd : (x == ("__classdict__" : Str)) = false := by decide)
    (hbase : attributeBase (.Name x npos) name X.env (eval (.Name x npos) X.env) = eval (.Name x npos) X.env := by rfl) (hline : (apos.endLine == cpos.line) = true := by rfl) :
    JE X ar false true (.Call (.Attribute (.Name x npos) name apos) [] [] cpos) (sMut i r pNil) := by
  refine ⟨fun pins s σ I H F σs Q ES J st tx q => ?_⟩
  unfold sMut at q
  cases g0 : gets σs i with
  | none => rw [g0] at q; exact q.elim
  | some r0 =>
    rw [g0] at q
    cases r0 with
    | lst ds0 =>
      obtain ⟨v, e1, sr⟩ := st.rep i _ g0
      obtain ⟨a, vs0, rfl, eF0, hH0, p0⟩ := sr.lst_inv
      refine wpAny_Call_method0_late hbase hline (eval_name J hN hv e1 hd hcd fun u s1 J1 ru => ?_)
      obtain ⟨t1, t2⟩ := tyV_is (T := "list") J1 ru (.inl ⟨rfl, _, SqL.of hH0⟩)
      refine ⟨"list", id, PySem.F.plainAttrs_list, slot, hty, t1, t2, Calls.callWith_builtin rfl (PySem.evalArgs_none ?_)⟩
      unfold pNil at q
      dsimp only at q
      rw [g0] at q
      cases ru
      exact thn (hm pins s1 σ H I a vs0 [] [] ds0 [] _ J1 st.sub hH0 p0 .nil .nil q) fun w s3 h => mut_end (b1 := true) (BPd.refl J1 st) g0 e1 eF0 h
    | _ => exact q.elim
end

section
variable {X : Cx}
def uAppend : RMut
  | ds, [d], Q => ds.length < sizeLine ∧ Q .none (ds ++ [d])
  | _, _, _ => False
theorem PRs.oneV {K : PySem.W.Frag} {I : Hp} {xs : List V} {d : PyData} (h : PRs K I xs [d]) : ∃ x, xs = [x] ∧ PR K I x d := by
  cases h with
  | cons a t => cases t; exact ⟨_, rfl, a⟩
theorem u_append : MutOp X "list.append" uAppend := by
  intro pins s σ H I a vs xs us ds es Q J sb hH p rv pe q
  rcases es with _ | ⟨d, _ | ⟨d2, dr⟩⟩
  · exact (show False from q).elim
  · obtain ⟨x, e, pd⟩ := pe.oneV
    subst e
    exact mt_append pins s σ H (.ref a) _ (.ref a) us _ J rfl rv ⟨a, vs, x, rfl, rfl, hH, by rw [p.length]; exact q.1, _, _, _, rfl, p.append (.cons pd .nil), .non, q.2⟩
  · exact (show False from q).elim
def uExtend : RMut
  | ds, [.list es], Q => ds.length + es.length ≤ sizeLine ∧ Q .none (ds ++ es)
  | _, _, _ => False
theorem u_extend : MutOp X "list.extend" uExtend := by
  intro pins s σ H I a vs xs us ds es Q J sb hH p rv pe q
  rcases es with _ | ⟨d, _ | ⟨d2, dr⟩⟩
  · exact (show False from q).elim
  · obtain ⟨x, e, pd⟩ := pe.oneV
    subst e
    cases pd with
    | lst h p2 => exact mt_extend pins s σ H (.ref a) _ (.ref a) us _ J rfl rv ⟨a, _, vs, _, rfl, rfl, hH, sb _ _ h, by rw [p.length, p2.length]; exact q.1, _, _, _, rfl, p.append p2, .non, q.2⟩
    | _ => exact (show False from q).elim
  · cases d <;> exact (show False from q).elim
def uPop : RMut
  | ds, [], Q => need ds.getLast? fun d => Q d ds.dropLast
  | ds, [.int i], Q => (-(2 ^ 63) ≤ i ∧ i < 2 ^ 63) ∧ need (ixN ds.length i) fun k => need ds[k]? fun d => Q d (ds.eraseIdx k)
  | _, _, _ => False
theorem PRs.dropLast {K : PySem.W.Frag} {I : Hp} : ∀ {vs : List V} {ds : List PyData}, PRs K I vs ds → PRs K I vs.dropLast ds.dropLast
  | _, _, .nil => .nil
  | _, _, .cons h .nil => .nil
  | _, _, .cons h (.cons h' t) => .cons h (PRs.dropLast (.cons h' t))
theorem PRs.eraseIdx {K : PySem.W.Frag} {I : Hp} : ∀ {vs : List V} {ds : List PyData} (k : Nat), PRs K I vs ds → PRs K I (vs.eraseIdx k) (ds.eraseIdx k)
  | _, _, _, .nil => .nil
  | _, _, 0, .cons _ t => t
  | _, _, k + 1, .cons h t => .cons h (PRs.eraseIdx k t)
theorem u_pop : MutOp X "list.pop" uPop := by
  intro pins s σ H I a vs xs us ds es Q J sb hH p rv pe q
  rcases es with _ | ⟨d, _ | ⟨d2, dr⟩⟩
  · cases pe
    obtain ⟨d, e, q2⟩ := need_some q
    rw [List.getLast?_eq_getElem?] at e
    obtain ⟨v, e1, pd⟩ := p.get e
    rw [← p.length] at e1
    exact mt_pop pins s σ H (.ref a) _ (.ref a) us _ J rfl rv ⟨a, vs, v, rfl, rfl, hH, e1, _, _, _, rfl, p.dropLast, pd, q2⟩
  · obtain ⟨x, e, pd⟩ := pe.oneV
    subst e
    cases pd with
    | int i =>
      obtain ⟨⟨h1, h2⟩, q⟩ := q
      obtain ⟨k, ek, q⟩ := need_some q
      obtain ⟨d, ed, q2⟩ := need_some q
      obtain ⟨v, e1, pd⟩ := p.get ed
      exact mt_popAt pins s σ H (.ref a) _ (.ref a) us _ J rfl rv ⟨a, vs, i, k, v, rfl, rfl, hH, h1, h2, by rw [p.length]; exact (ixN_seq ek).1, e1, _, _, _, rfl, p.eraseIdx k, pd, q2⟩
    | _ => exact (show False from q).elim
  · cases d <;> exact (show False from q).elim
def uReverse : RMut
  | ds, [], Q => Q .none ds.reverse
  | _, _, _ => False
theorem u_reverse : MutOp X "list.reverse" uReverse := by
  intro pins s σ H I a vs xs us ds es Q J sb hH p rv pe q
  rcases es with _ | ⟨d, dr⟩
  · cases pe
    exact mt_reverse pins s σ H (.ref a) _ (.ref a) us _ J rfl rv ⟨a, vs, rfl, rfl, hH, _, _, _, rfl, p.reverse, .non, q⟩
  · exact (show False from q).elim
def uInsert : RMut
  | ds, [.int i, d], Q => (ds.length < sizeLine ∧ 0 ≤ i ∧ i < 2 ^ 63) ∧ Q .none (ds.take i.toNat ++ [d] ++ ds.drop i.toNat)
  | _, _, _ => False
theorem u_insert : MutOp X "list.insert" uInsert := by
  intro pins s σ H I a vs xs us ds es Q J sb hH p rv pe q
  rcases es with _ | ⟨d, _ | ⟨d2, _ | ⟨d3, dr⟩⟩⟩
  · exact (show False from q).elim
  · cases d <;> exact (show False from q).elim
  · cases pe with
    | cons p1 t =>
      obtain ⟨y, e, p2⟩ := t.oneV
      subst e
      cases p1 with
      | int i =>
        obtain ⟨⟨h1, h2, h3⟩, q⟩ := q
        exact mt_insert pins s σ H (.ref a) _ (.ref a) us _ J rfl rv ⟨a, vs, i, y, rfl, rfl, hH, by rw [p.length]; exact h1, h2, h3, _, _, _, rfl, ((p.take _).append (.cons p2 .nil)).append (p.drop _), .non, q⟩
      | _ => exact (show False from q).elim
  · cases d <;> exact (show False from q).elim
end

/-! ### what a def promises -/
abbrev QS := S → SSt → Prop
abbrev XQ := Value → Option (List (Str × PyData)) → Prop
/-- by the arguments; wanted of the result and of what the arguments hold behind; wanted of an exception -/
abbrev Sps := List S → QS → XQ → Prop
def RQ (K : PySem.W.Frag) (vs : List V) (I H : Hp) (F : Nat → List Addr) (Q : QS) : VK := fun v H' =>
  ∃ r R I' F' ss', Evo I H (own F) I' H' (fun a => a ∈ R ∨ own F' a) ∧ StR K (arV vs) I' H' (vs.map some) ss' F' ∧ SR K I' H' v r R ∧ (∀ a ∈ R, ¬ own F' a) ∧ (∀ a ∈ R, I' a = none) ∧ Q r ss'
def EQ (K : PySem.W.Frag) (I H : Hp) (F : Nat → List Addr) (E : XQ) : XK := fun cls d H' =>
  ∃ I' ed, Evo I H (own F) I' H' (fun _ => False) ∧ Sub I' H' ∧ ED K I' H' d ed ∧ E cls ed
structure FnG (P : Program) (w : World) (K : PySem.W.Frag) (mg : Str → Option Value) (base : Heap) (k : Nat) (f : Addr) (fd : FuncData) (ps : List Str) (sp : Sps) : Prop where
  len : ∀ ss Q E, sp ss Q E → ss.length = ps.length
  run : ∀ (A : Around) (outer : List Env) (s : Shared) (H I : Hp) (F : Nat → List Addr) (args : Args) (us : List Value) (vs : List V) (ss : List S) (Q : QS) (E : XQ), Room k A → A.guards = some [] → Env0 P w K mg base A outer s H →
    BindsTo s fd args (ps.zip us) → Vals vs us → StR K (arV vs) I H (vs.map some) (ss.map some) F → sp ss Q E →
    codeAny (model P w) A (.call (.ref f) args) (CR (L2.CX P w) outer P w H s (RQ K vs I H F Q) (EQ K I H F E)) s
theorem FnG.imp {P : Program} {w : World} {K : PySem.W.Frag} {mg : Str → Option Value} {base : Heap} {k : Nat} {f : Addr} {fd : FuncData} {ps : List Str} {sp sp' : Sps} (h : FnG P w K mg base k f fd ps sp) (i : ∀ ss Q E, sp' ss Q E → sp ss Q E) : FnG P w K mg base k f fd ps sp' :=
  ⟨fun ss Q E q => h.len ss Q E (i _ _ _ q), fun A outer s H I F args us vs ss Q E a b c d e g q => h.run A outer s H I F args us vs ss Q E a b c d e g (i _ _ _ q)⟩
theorem FnG.mono {P : Program} {w : World} {K : PySem.W.Frag} {mg : Str → Option Value} {base : Heap} {j k : Nat} {f : Addr} {fd : FuncData} {ps : List Str} {sp : Sps} (h : FnG P w K mg base j f fd ps sp) (i : j ≤ k) : FnG P w K mg base k f fd ps sp :=
  ⟨h.len, fun A outer s H I F args us vs ss Q E a => h.run A outer s H I F args us vs ss Q E (a.mono i)⟩

/-! ### a call's arguments: pure data, or a name lent -/
inductive Arg where
  | d (x : PyData)
  | s (i : Nat)
def argS (σs : SSt) : List Arg → Option (List S)
  | [] => some []
  | .d x :: r => (argS σs r).map (.val x :: ·)
  | .s i :: r => match gets σs i with
    | some (.val _) => none
    | some y => (argS σs r).map (y :: ·)
    | none => none
/-- the names that are lent, each once -/
def lentOk : List Arg → List Nat → Bool
  | [], _ => true
  | .d _ :: r, l => lentOk r l
  | .s i :: r, l => !(l.contains i) && lentOk r (i :: l)
/-- the lent names behind the call -/
def back : List Arg → SSt → SSt → SSt
  | .s i :: r, x :: ss, σs => back r ss (sets σs i x)
  | .d _ :: r, _ :: ss, σs => back r ss σs
  | _, _, σs => σs
/-- the lent names where the call has raised -/
def lose : List Arg → SSt → SSt
  | .s i :: r, σs => lose r (match gets σs i with
    | some (.val _) => σs
    | _ => sets σs i none)
  | .d _ :: r, σs => lose r σs
  | [], σs => σs
end SV
/-! SvI: the call of a def. -/
namespace SV
open PySem PySem.Spec PyProof.Rows L2

/-- where among the arguments the i-th slot is lent -/
def lentIx : List Arg → Nat → Option Nat
  | [], _ => none
  | .d _ :: r, i => (lentIx r i).map (· + 1)
  | .s j :: r, i => if j = i then some 0 else (lentIx r i).map (· + 1)
theorem lentIx_not : ∀ {as : List Arg} {l : List Nat} {i : Nat}, lentOk as l = true → i ∈ l → lentIx as i = none
  | [], _, _, _, _ => rfl
  | .d _ :: r, l, i, h, m => by
    show (lentIx r i).map (· + 1) = none
    rw [lentIx_not (as := r) (l := l) h m]
    rfl
  | .s j :: r, l, i, h, m => by
    have h' : (!(l.contains j) && lentOk r (j :: l)) = true := h
    rw [Bool.and_eq_true] at h'
    have ne : j ≠ i := fun e => by
      subst e
      have : l.contains j = true := by simpa using m
      rw [this] at h'
      exact absurd h'.1 (by decide)
    show (if j = i then some 0 else (lentIx r i).map (· + 1)) = none
    rw [if_neg ne, lentIx_not (as := r) h'.2 (List.mem_cons_of_mem _ m)]
    rfl
theorem lentIx_get : ∀ {as : List Arg} {l : List Nat} {i k : Nat}, lentOk as l = true → (lentIx as i = some k ↔ as[k]? = some (.s i))
  | [], _, _, _, _ => by simp [lentIx]
  | .d _ :: r, l, i, 0, h => by
    show (lentIx r i).map (· + 1) = some 0 ↔ _
    cases lentIx r i <;> simp
  | .d _ :: r, l, i, k + 1, h => by
    show (lentIx r i).map (· + 1) = some (k + 1) ↔ _
    rw [List.getElem?_cons_succ, ← lentIx_get (as := r) (l := l) (i := i) (k := k) h]
    cases lentIx r i <;> simp
  | .s j :: r, l, i, 0, h => by
    show (if j = i then some 0 else (lentIx r i).map (· + 1)) = some 0 ↔ _
    by_cases e : j = i
    · rw [if_pos e, e]
      simp
    · rw [if_neg e]
      cases lentIx r i <;> simp [e]
  | .s j :: r, l, i, k + 1, h => by
    have h' : (!(l.contains j) && lentOk r (j :: l)) = true := h
    rw [Bool.and_eq_true] at h'
    show (if j = i then some 0 else (lentIx r i).map (· + 1)) = some (k + 1) ↔ _
    rw [List.getElem?_cons_succ, ← lentIx_get (as := r) (i := i) (k := k) h'.2]
    by_cases e : j = i
    · rw [if_pos e, lentIx_not h'.2 (by rw [e]; simp)]
      simp
    · rw [if_neg e]
      cases lentIx r i <;> simp
theorem argS_s {i : Nat} {as : List Arg} {σs : SSt} {ss : List S} (h : argS σs (.s i :: as) = some ss) : ∃ y ss', gets σs i = some y ∧ (∀ d, y ≠ .val d) ∧ argS σs as = some ss' ∧ ss = y :: ss' := by
  have h' : (match gets σs i with
    | some (.val _) => none
    | some y => (argS σs as).map (y :: ·)
    | none => none) = some ss := h
  cases e0 : gets σs i with
  | none => rw [e0] at h'; cases h'
  | some y =>
    rw [e0] at h'
    cases y with
    | val d => cases h'
    | _ =>
      obtain ⟨ss', e, rfl⟩ := Option.map_eq_some_iff.mp h'
      exact ⟨_, ss', rfl, (fun d => by simp), e, rfl⟩
theorem argS_get : ∀ {as : List Arg} {ss : List S} {σs : SSt} {k : Nat} {r : S}, argS σs as = some ss → ss[k]? = some r → (∃ d, as[k]? = some (.d d) ∧ r = .val d) ∨ ∃ i, as[k]? = some (.s i) ∧ gets σs i = some r ∧ ∀ d, r ≠ .val d
  | [], ss, _, k, r, h, g => by
    cases h
    simp at g
  | .d x :: as, ss, σs, k, r, h, g => by
    obtain ⟨ss', e, rfl⟩ := Option.map_eq_some_iff.mp (show (argS σs as).map (S.val x :: ·) = some ss from h)
    cases k with
    | zero =>
      simp at g
      exact .inl ⟨x, rfl, g.symm⟩
    | succ k => exact argS_get (as := as) (k := k) e (by simpa using g)
  | .s i :: as, ss, σs, k, r, h, g => by
    obtain ⟨y, ss', e0, ny, e, rfl⟩ := argS_s h
    cases k with
    | zero =>
      simp at g
      subst g
      exact .inr ⟨i, rfl, e0, ny⟩
    | succ k => exact argS_get (as := as) (k := k) e (by simpa using g)
theorem argS_length : ∀ {as : List Arg} {ss : List S} {σs : SSt}, argS σs as = some ss → ss.length = as.length
  | [], ss, _, h => by cases h; rfl
  | .d x :: as, ss, σs, h => by
    obtain ⟨ss', e, rfl⟩ := Option.map_eq_some_iff.mp (show (argS σs as).map (S.val x :: ·) = some ss from h)
    simp [argS_length e]
  | .s i :: as, ss, σs, h => by
    obtain ⟨y, ss', e0, ny, e, rfl⟩ := argS_s h
    simp [argS_length e]
theorem gets_map {ss : List S} {j : Nat} : gets (ss.map some) j = ss[j]? := by
  induction ss generalizing j with
  | nil => rfl
  | cons x r ih =>
    cases j with
    | zero => rfl
    | succ j => exact (ih (j := j)).trans (by simp)
theorem back_length : ∀ {as : List Arg} {ss σs : SSt}, (back as ss σs).length = σs.length
  | [], _, _ => by rfl
  | .d _ :: r, [], _ => rfl
  | .s _ :: r, [], _ => rfl
  | .d _ :: r, _ :: ss, σs => back_length (as := r)
  | .s i :: r, x :: ss, σs => (back_length (as := r)).trans sets_length
theorem back_get : ∀ {as : List Arg} {l : List Nat} {ss σs : SSt} {i : Nat}, lentOk as l = true → as.length = ss.length → i < σs.length → gets (back as ss σs) i = (match lentIx as i with
    | some k => gets ss k
    | none => gets σs i)
  | [], _, [], _, _, _, _, _ => rfl
  | [], _, _ :: _, _, _, _, h, _ => by simp at h
  | _ :: _, _, [], _, _, _, h, _ => by simp at h
  | .d _ :: r, l, x :: ss, σs, i, h, hl, hi => by
    have ih := back_get (as := r) (l := l) (ss := ss) (σs := σs) (i := i) h (by simpa using hl) hi
    show gets (back r ss σs) i = (match (lentIx r i).map (· + 1) with
      | some k => gets (x :: ss) k
      | none => gets σs i)
    rw [ih]
    cases lentIx r i <;> rfl
  | .s j :: r, l, x :: ss, σs, i, h, hl, hi => by
    have h' : (!(l.contains j) && lentOk r (j :: l)) = true := h
    rw [Bool.and_eq_true] at h'
    have ih := back_get (as := r) (l := j :: l) (ss := ss) (σs := sets σs j x) (i := i) h'.2 (by simpa using hl) (by rw [sets_length]; exact hi)
    show gets (back r ss (sets σs j x)) i = (match (if j = i then some 0 else (lentIx r i).map (· + 1)) with
      | some k => gets (x :: ss) k
      | none => gets σs i)
    rw [ih]
    by_cases e : j = i
    · rw [if_pos e, lentIx_not h'.2 (by rw [e]; simp)]
      subst e
      show gets (sets σs j x) j = x
      cases x with
      | none => exact gets_sets_none
      | some y => exact gets_sets_same hi
    · rw [if_neg e, gets_sets_ne (fun z => e z.symm)]
      cases lentIx r i <;> rfl
theorem lose_length : ∀ {as : List Arg} {σs : SSt}, (lose as σs).length = σs.length
  | [], _ => rfl
  | .d _ :: r, σs => lose_length (as := r)
  | .s i :: r, σs => by
    show (lose r _).length = _
    rw [lose_length]
    split
    · rfl
    · exact sets_length
/-- what is still known -/
theorem lose_some : ∀ {as : List Arg} {σs : SSt} {i : Nat} {r : S}, gets (lose as σs) i = some r → gets σs i = some r ∧ ((∃ d, r = .val d) ∨ ∀ k : Nat, as[k]? ≠ some (Arg.s i))
  | [], σs, i, r, h => ⟨h, .inr fun k => by simp⟩
  | .d _ :: as, σs, i, r, h => by
    obtain ⟨a, b⟩ := lose_some (as := as) h
    refine ⟨a, b.imp id fun q k => ?_⟩
    cases k with
    | zero => simp
    | succ k => simpa using q k
  | .s j :: as, σs, i, r, h => by
    have h' : gets (lose as (match gets σs j with
      | some (.val _) => σs
      | _ => sets σs j none)) i = some r := h
    obtain ⟨a, b⟩ := lose_some (as := as) h'
    by_cases e : j = i
    · subst e
      split at a
      · rename_i d hd
        rw [hd] at a
        cases a
        exact ⟨hd, .inl ⟨_, rfl⟩⟩
      · rw [gets_sets_none] at a
        cases a
    · have a' : gets σs i = some r := by
        split at a
        · exact a
        · rw [gets_sets_ne (fun z => e z.symm)] at a
          exact a
      refine ⟨a', b.imp id fun q k => ?_⟩
      cases k with
      | zero =>
        simp
        exact e
      | succ k => simpa using q k

/-! ### arguments -/
abbrev TCs := SSt → (List Arg → SSt → Prop) → XS → Prop
/-- what the arguments are, by values -/
def CAs (K : PySem.W.Frag) (I : Hp) (σ : L2.St) : List V → List Arg → Prop
  | [], [] => True
  | v :: vs, .d x :: as => PR K I v x ∧ CAs K I σ vs as
  | v :: vs, .s i :: as => σ[i]? = some (some v) ∧ CAs K I σ vs as
  | _, _ => False
theorem CAs.sub {K : PySem.W.Frag} {I I' : Hp} {σ : L2.St} (e : Sub I I') : ∀ {vs : List V} {as : List Arg}, CAs K I σ vs as → CAs K I' σ vs as
  | [], [], h => trivial
  | _ :: _, .d x :: _, h => ⟨h.1.sub e, CAs.sub e h.2⟩
  | _ :: _, .s i :: _, h => ⟨h.1, CAs.sub e h.2⟩
  | [], _ :: _, h => h.elim
  | _ :: _, [], h => h.elim
theorem CAs.length {K : PySem.W.Frag} {I : Hp} {σ : L2.St} : ∀ {vs : List V} {as : List Arg}, CAs K I σ vs as → vs.length = as.length
  | [], [], h => rfl
  | _ :: _, .d x :: _, h => by simp [CAs.length h.2]
  | _ :: _, .s i :: _, h => by simp [CAs.length h.2]
  | [], _ :: _, h => h.elim
  | _ :: _, [], h => h.elim
theorem CAs.getD {K : PySem.W.Frag} {I : Hp} {σ : L2.St} : ∀ {vs : List V} {as : List Arg} {k : Nat} {x : PyData}, CAs K I σ vs as → as[k]? = some (.d x) → ∃ v, vs[k]? = some v ∧ PR K I v x
  | [], [], k, _, h, g => by simp at g
  | v :: _, .d y :: _, 0, x, h, g => by
    simp at g
    subst g
    exact ⟨v, rfl, h.1⟩
  | v :: _, .s i :: _, 0, x, h, g => by simp at g
  | _ :: _, .d y :: _, k + 1, x, h, g => by simpa using CAs.getD (k := k) h.2 (by simpa using g)
  | _ :: _, .s i :: _, k + 1, x, h, g => by simpa using CAs.getD (k := k) h.2 (by simpa using g)
  | [], _ :: _, _, _, h, _ => h.elim
  | _ :: _, [], _, _, h, _ => h.elim
theorem CAs.getS {K : PySem.W.Frag} {I : Hp} {σ : L2.St} : ∀ {vs : List V} {as : List Arg} {k i : Nat}, CAs K I σ vs as → as[k]? = some (.s i) → ∃ v, vs[k]? = some v ∧ σ[i]? = some (some v)
  | [], [], k, _, h, g => by simp at g
  | v :: _, .d y :: _, 0, x, h, g => by simp at g
  | v :: _, .s i :: _, 0, x, h, g => by
    simp at g
    subst g
    exact ⟨v, rfl, h.1⟩
  | _ :: _, .d y :: _, k + 1, x, h, g => by simpa using CAs.getS (k := k) h.2 (by simpa using g)
  | _ :: _, .s i :: _, k + 1, x, h, g => by simpa using CAs.getS (k := k) h.2 (by simpa using g)
  | [], _ :: _, _, _, h, _ => h.elim
  | _ :: _, [], _, _, h, _ => h.elim
def CPs (X : Cx) (ar : Nat → Option V) (pins : List (Addr × Obj)) (σ : L2.St) (I H : Hp) (F : Nat → List Addr) (σs : SSt) (Q : List Arg → SSt → Prop) (us : List Value) (s' : Shared) : Prop :=
  ∃ vs as I' H' F' σs', BPd X ar pins σ false I H F σs I' H' F' σs' s' ∧ Vals vs us ∧ CAs X.K I' σ vs as ∧ Q as σs'
structure JC (X : Cx) (ar : Nat → Option V) (es : List Expr) (t : TCs) : Prop where
  run : ∀ (pos : Pos) (pins : List (Addr × Obj)) (s : Shared) (σ : L2.St) (I H : Hp) (F : Nat → List Addr) (σs : SSt) (Q : List Arg → SSt → Prop) (ES : XS), Inv X pins σ H s → StR X.K ar I H σ σs F → TX X ar I H (own F) ES → t σs Q ES →
    wpAny (model X.prog X.w) X.A (spliced (backTo pos (starEach es X.env))) (CPs X ar pins σ I H F σs Q) X.xe s
def cNil : TCs := fun σs Q _ => Q [] σs
def cVal (te : TEs) (t : TCs) : TCs := fun σs Q ES => te σs (fun r σ1 => nd r.toD fun d => t σ1 (fun as σ2 => Q (.d d :: as) σ2) ES) ES
def cLent (i : Nat) (t : TCs) : TCs := fun σs Q ES => nd (gets σs i) fun r => match r with
  | .val d => t σs (fun as σ2 => Q (.d d :: as) σ2) ES
  | _ => t σs (fun as σ2 => Q (.s i :: as) σ2) ES
section
variable {X : Cx} {ar : Nat → Option V} {e : Expr} {es : List Expr} {b1 : Bool} {te : TEs} {t : TCs}
theorem jc_nil : JC X ar [] cNil := ⟨fun _ pins s σ I H F σs Q ES J st tx q => Calls.spliced_nil ⟨[], [], I, H, F, σs, BPd.refl J st, .nil, trivial, q⟩⟩
theorem jc_val (ha : JE X ar b1 true e te) (hr : JC X ar es t) (hs : starEach (e :: es) X.env = (false, eval e X.env) :: starEach es X.env := by rfl) : JC X ar (e :: es) (cVal te t) := by
  refine ⟨fun pos pins s σ I H F σs Q ES J st tx q => ?_⟩
  rw [hs]
  show wpAny _ _ (spliced ((false, eval e X.env) :: backTo pos (starEach es X.env))) _ _ s
  refine Calls.spliced_cons (thn (ha.run pins s σ I H F σs _ ES J st tx q) fun v s1 ⟨x, rx, R1, I1, H1, F1, σ1, h1, r1, q1⟩ => ?_)
  obtain ⟨d, ex, q1⟩ := nd_some q1
  obtain ⟨hb, p⟩ := h1.freeze ex
  refine thn (hr.run pos pins s1 σ _ H1 F1 σ1 _ ES hb.inv hb.st (tx.go hb.evo fun _ z => z) q1) fun us s2 ⟨vs, as, I2, H2, F2, σ2, h2, rv, pv, q2⟩ => ?_
  exact ⟨x :: vs, .d d :: as, I2, H2, F2, σ2, (hb.then h2).weak (fun z => by simp at z), .cons r1 rv, ⟨p.sub h2.evo.up, pv⟩, q2⟩
theorem jc_lent (i : Nat) {x : Str} {pos : Pos} (hr : JC X ar es t) (hN : X.N[i]? = some x := by rfl) (hv : Vis X.env.scope x := by first | exact Or.inl rfl | exact Or.inr (Or.inl rfl) | exact Or.inr (Or.inr rfl)) (hd : (x == ("__debug__" : Str)) = false := by decide)
    (hcd : (x == ("__classdict__" : Str)) = false := by decide) (hs : starEach (.Name x pos :: es) X.env = (false, eval (.Name x pos) X.env) :: starEach es X.env := by rfl) : JC X ar (.Name x pos :: es) (cLent i t) := by
  refine ⟨fun pos' pins s σ I H F σs Q ES J st tx q => ?_⟩
  rw [hs]
  show wpAny _ _ (spliced ((false, eval (.Name x pos) X.env) :: backTo pos' (starEach es X.env))) _ _ s
  obtain ⟨r, er, q⟩ := nd_some q
  obtain ⟨v, e1, sr⟩ := st.rep i r er
  refine Calls.spliced_cons (eval_name J hN hv e1 hd hcd fun u s1 J1 ru => ?_)
  cases r with
  | val d =>
    refine thn (hr.run pos' pins s1 σ I H F σs _ ES J1 st tx q) fun us s2 ⟨vs, as, I2, H2, F2, σ2, h2, rv, pv, q2⟩ => ?_
    exact ⟨v :: vs, .d d :: as, I2, H2, F2, σ2, h2, .cons ru rv, ⟨sr.val_inv.2.sub h2.evo.up, pv⟩, q2⟩
  | _ =>
    refine thn (hr.run pos' pins s1 σ I H F σs _ ES J1 st tx q) fun us s2 ⟨vs, as, I2, H2, F2, σ2, h2, rv, pv, q2⟩ => ?_
    exact ⟨v :: vs, .s i :: as, I2, H2, F2, σ2, h2, .cons ru rv, ⟨e1, pv⟩, q2⟩
end

/-! ### the callee runs -/
def sCall (sp : Sps) (t : TCs) : TEs := fun σs Q ES => t σs (fun as σ1 => lentOk as [] = true ∧ nd (argS σ1 as) fun ss => sp ss (fun r ss' => Q r (back as ss' σ1)) (fun cls ed => ES cls ed (lose as σ1))) ES
section
variable {X : Cx} {ar : Nat → Option V} {pins : List (Addr × Obj)} {σ : L2.St} {I H : Hp} {F : Nat → List Addr} {σs : SSt} {s : Shared} {k : Nat} {f : Addr} {fd : FuncData} {ps : List Str} {sp : Sps}
/-- the objects of the arguments -/
def lentF (as : List Arg) (F : Nat → List Addr) : Nat → List Addr := fun k => match as[k]? with
  | some (.s i) => F i
  | _ => []
theorem own_lent {as : List Arg} {a : Addr} (m : own (lentF as F) a) : own F a := by
  obtain ⟨k, m⟩ := m
  unfold lentF at m
  split at m
  · exact ⟨_, m⟩
  · cases m
theorem run_fnS (G : FnG X.prog X.w X.K X.mg X.base k f fd ps sp) (hr : Room k X.A) (hg : X.A.guards = some []) (hb : Binds X.K fd ps []) {us : List Value} {vs : List V} {as : List Arg} {ss : List S} {Q : KS} {ES : XS}
    (J : Inv X pins σ H s) (st : StR X.K ar I H σ σs F) (tx : TX X ar I H (own F) ES) (rv : Vals vs us) (ca : CAs X.K I σ vs as) (hl : lentOk as [] = true) (ea : argS σs as = some ss)
    (q : sp ss (fun r ss' => Q r (back as ss' σs)) (fun cls ed => ES cls ed (lose as σs))) : wpAny (model X.prog X.w) X.A (call (.ref f) us) (RP X ar pins σ false true I H F σs Q) X.xe s := by
  have lss := argS_length ea
  have lvs := ca.length
  have lps : us.length = ps.length := by rw [← rv.length, lvs, ← lss]; exact G.len _ _ _ q
  -- the callee's own state
  have st0 : StR X.K (arV vs) I H (vs.map some) (ss.map some) (lentF as F) := by
    refine ⟨st.sub, fun j r h => ?_, fun j h => ?_, fun i j a m m' => ?_, fun j a m => st.ownI (own_lent ⟨j, m⟩), fun j v r h1 h2 => ?_, by simp [lss, lvs]⟩
    · rw [gets_map] at h
      rcases argS_get ea h with ⟨d, e1, e2⟩ | ⟨i, e1, e2, _⟩
      · obtain ⟨v, e3, p⟩ := ca.getD e1
        subst e2
        refine ⟨v, by rw [List.getElem?_map, e3]; rfl, ?_⟩
        have : lentF as F j = [] := by unfold lentF; rw [e1]
        rw [this]
        exact .val p
      · obtain ⟨v, e3, e4⟩ := ca.getS e1
        obtain ⟨v', e5, sr⟩ := st.rep i r e2
        rw [e4] at e5
        cases e5
        refine ⟨v, by rw [List.getElem?_map, e3]; rfl, ?_⟩
        have : lentF as F j = F i := by unfold lentF; rw [e1]
        rw [this]
        exact sr
    · rw [gets_map] at h
      have e1 := h
      have : as[j]? = none := by
        rw [List.getElem?_eq_none_iff] at e1 ⊢
        omega
      unfold lentF
      rw [this]
    · unfold lentF at m m'
      split at m
      · rename_i i1 e1
        split at m'
        · rename_i i2 e2
          have := st.dis _ _ a m m'
          subst this
          have k1 := (lentIx_get hl).mpr e1
          have k2 := (lentIx_get hl).mpr e2
          rw [k1] at k2
          exact Option.some.inj k2
        · cases m'
      · cases m
    · exact .inr (by rw [List.getElem?_map, show vs[j]? = some v from h1]; rfl)
  have bt := hb s us J.kIn (by rw [List.append_nil]; exact lps)
  rw [List.append_nil] at bt
  refine wpAny_call (codeAny_mono (G.run X.A X.stack s H I (lentF as F) ⟨us, []⟩ us vs ss _ _ hr hg J.env0 bt rv st0 q) fun r s' hq => ?_)
  cases r with
  | error e =>
    obtain ⟨W, tk, hW⟩ := tx
    refine tk e s' (XE.of_call J (E := EQ X.K I H (lentF as F) _) (fun cls d H' hE => ?_) hq)
    obtain ⟨I', ed, ev, sb', hed, he⟩ := hE
    -- what the slots are still known to hold
    refine hW cls d σ I' H' (fun j => if (gets (lose as σs) j).isSome = true then F j else []) (lose as σs) ed ⟨ev.up, fun a x e n => ev.fr a x e fun z => n (own_lent z), fun a m => ?_, fun a x e => ?_⟩ ⟨sb', fun j r g => ?_, fun j g => ?_, fun i j a m m' => ?_, fun j a m => ?_, fun j v r g1 g2 => st.par j v r g1 (lose_some g2).1, by rw [lose_length]; exact st.len⟩ hed he
    · obtain ⟨j, m⟩ := m
      try dsimp only at m
      split at m
      · exact .inl ⟨j, m⟩
      · cases m
    · rcases ev.ni a x e with e | e | e
      · exact .inl e
      · exact .inr (.inl (own_lent e))
      · exact .inr (.inr e)
    · obtain ⟨g1, g2⟩ := lose_some g
      obtain ⟨v, e1, sr⟩ := st.rep j r g1
      refine ⟨v, e1, ?_⟩
      rw [if_pos (by rw [g]; rfl)]
      rcases g2 with ⟨d, rfl⟩ | g2
      · obtain ⟨e2, p⟩ := sr.val_inv
        rw [e2]
        exact .val (p.sub ev.up)
      · refine sr.keep ev.up fun a m x e => ev.fr a x e fun z => ?_
        obtain ⟨k, z⟩ := z
        unfold lentF at z
        split at z
        · rename_i i e3
          have := st.dis _ _ a m z
          subst this
          exact g2 k e3
        · cases z
    · try dsimp only
      rw [if_neg (by rw [g]; exact Bool.false_ne_true)]
    · try dsimp only at m m'
      split at m
      · split at m'
        · exact st.dis i j a m m'
        · cases m'
      · cases m
    · try dsimp only at m
      split at m
      · rename_i hs
        obtain ⟨r, g⟩ := Option.isSome_iff_exists.mp hs
        obtain ⟨g1, g2⟩ := lose_some g
        have nl : ¬ own (lentF as F) a := fun z => by
          obtain ⟨k, z⟩ := z
          unfold lentF at z
          split at z
          · rename_i i e3
            have := st.dis _ _ a m z
            subst this
            rcases g2 with ⟨d, rfl⟩ | g2
            · obtain ⟨v, _, sr⟩ := st.rep _ _ g1
              rw [sr.val_inv.1] at m
              cases m
            · exact g2 k e3
          · cases z
        cases e : I' a with
        | none => rfl
        | some x =>
          rcases ev.ni a x e with e | e | e
          · rw [st.notI j a m] at e
            cases e
          · exact absurd e nl
          · obtain ⟨y, e2⟩ := st.there ⟨j, m⟩
            rw [e] at e2
            cases e2
      · cases m
  | ok fl =>
    cases fl with
    | ret u =>
      obtain ⟨v, H', J', rr, r, R, I', F', ss', ev, st', sr, nf, nI, q'⟩ := J.after (show CE X.stack X.prog X.w H s _ u s' from hq)
      have lss' : as.length = ss'.length := by
        have := st'.len
        rw [List.length_map] at this
        omega
      -- the slots' own objects behind the call
      have nlent : ∀ {j : Nat} {a : Addr}, lentIx as j = none → a ∈ F j → ¬ own (lentF as F) a := fun {j a} e m z => by
        obtain ⟨k, z⟩ := z
        unfold lentF at z
        split at z
        · rename_i i e3
          have := st.dis _ _ a m z
          subst this
          rw [(lentIx_get hl).mpr e3] at e
          cases e
        · cases z
      have keepJ : ∀ {j : Nat} {a : Addr}, lentIx as j = none → a ∈ F j → ∀ x, H a = some x → H' a = some x := fun {j a} e m x h => ev.fr a x h (nlent e m)
      have notI : ∀ {j : Nat} {a : Addr}, lentIx as j = none → a ∈ F j → I' a = none := fun {j a} e m => by
        cases q0 : I' a with
        | none => rfl
        | some x =>
          rcases ev.ni a x q0 with z | z | z
          · rw [st.notI j a m] at z
            cases z
          · exact absurd z (nlent e m)
          · obtain ⟨y, e2⟩ := st.there ⟨j, m⟩
            rw [z] at e2
            cases e2
      have notN : ∀ {j : Nat} {a : Addr}, lentIx as j = none → a ∈ F j → ¬ (a ∈ R ∨ own F' a) := fun {j a} e m z => by
        rcases ev.nw a z with z | z
        · exact nlent e m z
        · obtain ⟨y, e2⟩ := st.there ⟨j, m⟩
          rw [z] at e2
          cases e2
      refine ⟨v, r, R, I', H', (fun j => match lentIx as j with
        | some k => F' k
        | none => F j), back as ss' σs, ⟨J', ⟨ev.up, fun a x e n => ev.fr a x e fun z => n (own_lent z), fun a m => ?_, fun a x e => ?_⟩, ⟨st'.sub, fun j r' g => ?_, fun j g => ?_, fun i j a m m' => ?_, fun j a m => ?_, fun j w r' g1 g2 => ?_, by rw [back_length]; exact st.len⟩, sr, fun _ a m z => ?_, nI, (fun z => Bool.noConfusion z)⟩, rr, q'⟩
      · have fromN : ∀ {c : Addr}, (c ∈ R ∨ own F' c) → own F c ∨ H c = none := fun z => by
          rcases ev.nw _ z with z | z
          · exact .inl (own_lent z)
          · exact .inr z
        rcases m with m | ⟨j, m⟩
        · exact fromN (.inl m)
        · try dsimp only at m
          split at m
          · exact fromN (.inr ⟨_, m⟩)
          · exact .inl ⟨j, m⟩
      · rcases ev.ni a x e with e | e | e
        · exact .inl e
        · exact .inr (.inl (own_lent e))
        · exact .inr (.inr e)
      · have hj : j < σs.length := by
          have := gets_some_lt g
          rw [back_length] at this
          exact this
        rw [back_get hl lss' hj] at g
        cases e : lentIx as j with
        | none =>
          rw [e] at g
          obtain ⟨w, e1, s1⟩ := st.rep j r' g
          exact ⟨w, e1, s1.keep ev.up fun a m x h => keepJ e m x h⟩
        | some k =>
          rw [e] at g
          obtain ⟨w, e1, s1⟩ := st'.rep k r' g
          obtain ⟨w2, e3, e4⟩ := ca.getS ((lentIx_get hl).mp e)
          rw [List.getElem?_map, e3] at e1
          cases e1
          exact ⟨w, e4, s1⟩
      · by_cases hj : j < σs.length
        · rw [back_get hl lss' hj] at g
          cases e : lentIx as j with
          | none =>
            rw [e] at g
            exact st.non j g
          | some k =>
            rw [e] at g
            exact st'.non k g
        · cases e : lentIx as j with
          | none =>
            refine st.non j ?_
            cases g3 : gets σs j with
            | none => rfl
            | some y => exact absurd (gets_some_lt g3) hj
          | some k =>
            obtain ⟨w2, e3, e4⟩ := ca.getS ((lentIx_get hl).mp e)
            have := (List.getElem?_eq_some_iff.mp e4).1
            rw [← st.len] at this
            exact absurd this hj
      · try dsimp only at m m'
        split at m
        · rename_i k1 e1
          split at m'
          · rename_i k2 e2
            have := st'.dis _ _ a m m'
            subst this
            have z1 := (lentIx_get hl).mp e1
            have z2 := (lentIx_get hl).mp e2
            rw [z1] at z2
            exact Arg.s.inj (Option.some.inj z2)
          · rename_i e2
            exact absurd (.inr ⟨_, m⟩) (notN e2 m')
        · rename_i e1
          split at m'
          · exact absurd (.inr ⟨_, m'⟩) (notN e1 m)
          · exact st.dis i j a m m'
      · try dsimp only at m
        split at m
        · exact st'.notI _ a m
        · rename_i e1
          exact notI e1 m
      · have hj : j < σs.length := by
          have := gets_some_lt g2
          rw [back_length] at this
          exact this
        rw [back_get hl lss' hj] at g2
        cases e : lentIx as j with
        | none =>
          rw [e] at g2
          exact st.par j w r' g1 g2
        | some k =>
          rw [e] at g2
          obtain ⟨w2, e3, e4⟩ := ca.getS ((lentIx_get hl).mp e)
          -- lent at the call: a name with own objects
          rcases argS_get ea (show ss[k]? = some _ from (List.getElem?_eq_getElem (by
            have := (List.getElem?_eq_some_iff.mp ((lentIx_get hl).mp e)).1
            omega))) with ⟨d, z1, _⟩ | ⟨i, z1, z2, z3⟩
          · rw [(lentIx_get hl).mp e] at z1
            cases z1
          · rw [(lentIx_get hl).mp e] at z1
            cases z1
            rcases st.par j w _ g1 z2 with ⟨d, ed⟩ | z
            · exact absurd ed (z3 d)
            · exact .inr z
      · obtain ⟨j, z⟩ := z
        dsimp only at z
        split at z
        · exact nf a m ⟨_, z⟩
        · rename_i e1
          exact notN e1 z (.inl m)
    | next => exact False.elim hq
    | brk => exact False.elim hq
    | cont => exact False.elim hq
end
end SV
/-! SvJ: the call of a def by its name; statements. -/
namespace SV
open PySem PySem.Spec PyProof.Rows L2

section
variable {X : Cx} {ar : Nat → Option V} {k : Nat} {f : Addr} {fd : FuncData} {ps : List Str} {sp : Sps} {x : Str} {p pos : Pos} {e : Expr} {es : List Expr} {t : TCs}
theorem je_call (G : FnG X.prog X.w X.K X.mg X.base k f fd ps sp) (hr : Room k X.A) (hgd : X.A.guards = some []) (hg : Gl X x) (hm : X.mg x = some (.ref f)) (hk : PySem.W.keepIn X.K (.ref f) = true) (hb : Binds X.K fd ps [])
    (ha : JC X ar (e :: es) t) (hdb : (x == ("__debug__" : Str)) = false := by decide) (he : starEach (e :: es) X.env = (false, eval e X.env) :: starEach es X.env := by rfl) (hpl : (backTo pos (starEach es X.env)).any (·.1) = false := by rfl) :
    JE X ar false true (.Call (.Name x p) (e :: es) [] pos) (sCall sp t) := by
  refine ⟨fun pins s σ I H F σs Q ES J st tx q => ?_⟩
  refine wpAny_Call_Name_kw (ld_glob J hg hm ?_ hdb)
  refine PySem.W.callWith_K (h₀ := X.base) J.ok.mod.kin hk (thn (ha.run pos pins s σ I H F σs _ ES J st tx q) fun us s1 ⟨vs, as, I1, H1, F1, σ1, d, rv, ca, hl, q2⟩ => ⟨d.inv.kIn, ?_⟩) he hpl
  obtain ⟨ss, ea, q3⟩ := nd_some q2
  refine thn (run_fnS G hr hgd hb d.inv d.st (tx.then d) rv ca hl ea q3) fun u s2 ⟨v, r, R, I2, H2, F2, σ2, d2, rr, q4⟩ => ?_
  exact ⟨v, r, R, I2, H2, F2, σ2, d.thenR d2, rr, q4⟩
theorem je_call0 (G : FnG X.prog X.w X.K X.mg X.base k f fd ps sp) (hr : Room k X.A) (hgd : X.A.guards = some []) (hg : Gl X x) (hm : X.mg x = some (.ref f)) (hk : PySem.W.keepIn X.K (.ref f) = true) (hb : Binds X.K fd ps [])
    (hdb : (x == ("__debug__" : Str)) = false := by decide) : JE X ar false true (.Call (.Name x p) [] [] pos) (sCall sp cNil) := by
  refine ⟨fun pins s σ I H F σs Q ES J st tx q => ?_⟩
  refine wpAny_Call_Name_kw (ld_glob J hg hm ?_ hdb)
  obtain ⟨hl, q2⟩ := (show lentOk [] [] = true ∧ nd (argS σs []) _ from q)
  obtain ⟨ss, ea, q3⟩ := nd_some q2
  exact PySem.W.callWith_K0 J.kIn hk (run_fnS (us := []) (vs := []) (as := []) G hr hgd hb J st tx .nil trivial hl ea q3)
end

/-! ### statements -/
structure Es where
  nx : SSt → Prop
  rt : QS
  bk : SSt → Prop := fun _ => False
  ct : SSt → Prop := fun _ => False
abbrev TSs := SSt → Es → XS → Prop
/-- what stands behind a statement -/
def Bh (X : Cx) (ar : Nat → Option V) (I H : Hp) (F : Nat → List Addr) (N : SSt → Prop) : L2.St → Hp → Prop := fun σ' H' =>
  ∃ I' F' σs', Evo I H (own F) I' H' (own F') ∧ StR X.K ar I' H' σ' σs' F' ∧ N σs'
def Rt (X : Cx) (ar : Nat → Option V) (I H : Hp) (F : Nat → List Addr) (Q : QS) : VK := fun v H' =>
  ∃ r R I' σ' F' σs', σ'.length = X.N.length ∧ Evo I H (own F) I' H' (fun a => a ∈ R ∨ own F' a) ∧ StR X.K ar I' H' σ' σs' F' ∧ SR X.K I' H' v r R ∧ (∀ a ∈ R, ¬ own F' a) ∧ (∀ a ∈ R, I' a = none) ∧ Q r σs'
/-- D is reached where Ds is -/
structure Rch (X : Cx) (ar : Nat → Option V) (I H : Hp) (F : Nat → List Addr) (Ds : Es) (D : Ends) : Prop where
  nx : ∀ σ' H', Bh X ar I H F Ds.nx σ' H' → D.nx σ' H'
  bk : ∀ σ' H', Bh X ar I H F Ds.bk σ' H' → D.bk σ' H'
  ct : ∀ σ' H', Bh X ar I H F Ds.ct σ' H' → D.ct σ' H'
  rt : ∀ v H', Rt X ar I H F Ds.rt v H' → D.rt v H'
def liS (X : Cx) (ar : Nat → Option V) (t : TSs) : TS := fun D σ H => ∃ I F σs Ds ES, StR X.K ar I H σ σs F ∧ TX X ar I H (own F) ES ∧ t σs Ds ES ∧ Rch X ar I H F Ds D
def JS (X : Cx) (ar : Nat → Option V) (st : Stmt) (t : TSs) : Prop := PS X st (liS X ar t)
def JSs (X : Cx) (ar : Nat → Option V) (st : List Stmt) (t : TSs) : Prop := PSs X st (liS X ar t)
theorem PS.mono {X : Cx} {st : Stmt} {t t' : TS} (h : PS X st t) (i : ∀ D σ H, t' D σ H → t D σ H) : PS X st t' := ⟨fun pins s σ H D J q => h.run pins s σ H D J (i D σ H q)⟩
theorem PSs.mono {X : Cx} {st : List Stmt} {t t' : TS} (h : PSs X st t) (i : ∀ D σ H, t' D σ H → t D σ H) : PSs X st t' := ⟨fun pins s σ H D J q => h.run pins s σ H D J (i D σ H q)⟩
def liE (X : Cx) (ar : Nat → Option V) (m : Bool) (t : TEs) : TE := fun σ H Q => ∃ I F σs Qk ES, StR X.K ar I H σ σs F ∧ TX X ar I H (own F) ES ∧ t σs Qk ES ∧
  ∀ v r R I' H' F' σs', Evo I H (own F) I' H' (fun a => a ∈ R ∨ own F' a) → StR X.K ar I' H' σ σs' F' → SR X.K I' H' v r R → (m = true → ∀ a ∈ R, ¬ own F' a) → (∀ a ∈ R, I' a = none) → Qk r σs' → Q v H'
theorem JE.pe {X : Cx} {ar : Nat → Option V} {b m : Bool} {e : Expr} {t : TEs} (h : JE X ar b m e t) : PE X e (liE X ar m t) :=
  ⟨fun pins s σ H Q J ⟨I, F, σs, Qk, ES, st, tx, q, f⟩ => thn (h.run pins s σ I H F σs Qk ES J st tx q) fun u s' ⟨v, r, R, I', H', F', σs', d, rv, q'⟩ =>
    ⟨v, H', d.inv, rv, f v r R I' H' F' σs' d.evo d.st d.sr d.nf d.nI q'⟩⟩
def liT (X : Cx) (ar : Nat → Option V) (t : TTs) : TT := fun σ H Q => ∃ I F σs Qk ES, StR X.K ar I H σ σs F ∧ TX X ar I H (own F) ES ∧ t σs Qk ES ∧
  ∀ c I' H' F' σs', Evo I H (own F) I' H' (own F') → StR X.K ar I' H' σ σs' F' → Qk c σs' → Q c H'
theorem JT.pt {X : Cx} {ar : Nat → Option V} {b : Bool} {e : Expr} {t : TTs} (h : JT X ar b e t) : PT X e (liT X ar t) :=
  ⟨fun pins s σ H Q J ⟨I, F, σs, Qk, ES, st, tx, q, f⟩ => thn (h.run pins s σ I H F σs Qk ES J st tx q) fun c s' ⟨I', H', F', σs', d, q'⟩ =>
    ⟨H', d.inv, f c I' H' F' σs' d.evo d.st q'⟩⟩

section
variable {X : Cx} {ar : Nat → Option V} {I H I1 H1 : Hp} {F F1 : Nat → List Addr} {Ds : Es} {D : Ends}
theorem Bh.go {N : SSt → Prop} (ev : Evo I H (own F) I1 H1 (own F1)) {σ' : L2.St} {H' : Hp} (h : Bh X ar I1 H1 F1 N σ' H') : Bh X ar I H F N σ' H' := by
  obtain ⟨I', F', σs', e2, st, q⟩ := h
  exact ⟨I', F', σs', ev.trans e2 (fun _ z => z) (fun _ z => .inr z), st, q⟩
theorem Rt.go {Q : QS} (ev : Evo I H (own F) I1 H1 (own F1)) {v : V} {H' : Hp} (h : Rt X ar I1 H1 F1 Q v H') : Rt X ar I H F Q v H' := by
  obtain ⟨r, R, I', σ', F', σs', hn, e2, st, q⟩ := h
  exact ⟨r, R, I', σ', F', σs', hn, ev.trans e2 (fun _ z => z) (fun _ z => .inr z), st, q⟩
theorem Rch.go (h : Rch X ar I H F Ds D) (ev : Evo I H (own F) I1 H1 (own F1)) : Rch X ar I1 H1 F1 Ds D :=
  ⟨fun σ' H' q => h.nx σ' H' (q.go ev), fun σ' H' q => h.bk σ' H' (q.go ev), fun σ' H' q => h.ct σ' H' (q.go ev), fun v H' q => h.rt v H' (q.go ev)⟩
theorem Rch.self (Ds : Es) : Rch X ar I H F Ds { nx := Bh X ar I H F Ds.nx, rt := Rt X ar I H F Ds.rt, bk := Bh X ar I H F Ds.bk, ct := Bh X ar I H F Ds.ct } :=
  ⟨fun _ _ q => q, fun _ _ q => q, fun _ _ q => q, fun _ _ q => q⟩
end

section
variable {X : Cx} {ar : Nat → Option V} {st : Stmt} {rest : List Stmt} {t u : TSs} {e : Expr} {te : TEs} {b1 : Bool} {pos : Pos}
def sNext : TSs := fun σs D _ => D.nx σs
def sSeq (t u : TSs) : TSs := fun σs D ES => t σs { D with nx := fun σ1 => u σ1 D ES } ES
theorem jss_nil : JSs X ar [] sNext := PSs.mono pss_nil fun D σ H ⟨I, F, σs, Ds, ES, st, tx, q, r⟩ => r.nx σ H ⟨I, F, σs, .refl _ _ _, st, q⟩
theorem jss_cons (h1 : JS X ar st t) (h2 : JSs X ar rest u) : JSs X ar (st :: rest) (sSeq t u) :=
  PSs.mono (pss_cons h1 h2) fun D σ H ⟨I, F, σs, Ds, ES, st, tx, q, r⟩ =>
    ⟨I, F, σs, { Ds with nx := fun σ1 => u σ1 Ds ES }, ES, st, tx, q, ⟨fun σ' H' ⟨I', F', σs', ev, st', q'⟩ => ⟨I', F', σs', Ds, ES, st', tx.go ev (fun _ z => z), q', r.go ev⟩, r.bk, r.ct, r.rt⟩⟩
theorem jss_one (h1 : JS X ar st t) : JSs X ar [st] t := pss_one h1
theorem js_pass : JS X ar (.Pass pos) sNext := PS.mono ps_pass fun D σ H ⟨I, F, σs, Ds, ES, st, tx, q, r⟩ => r.nx σ H ⟨I, F, σs, .refl _ _ _, st, q⟩
def sBreak : TSs := fun σs D _ => D.bk σs
def sCont : TSs := fun σs D _ => D.ct σs
theorem js_break : JS X ar (.Break pos) sBreak := PS.mono ps_break fun D σ H ⟨I, F, σs, Ds, ES, st, tx, q, r⟩ => r.bk σ H ⟨I, F, σs, .refl _ _ _, st, q⟩
theorem js_cont : JS X ar (.Continue pos) sCont := PS.mono ps_continue fun D σ H ⟨I, F, σs, Ds, ES, st, tx, q, r⟩ => r.ct σ H ⟨I, F, σs, .refl _ _ _, st, q⟩
/-- what is left of an expression's own objects is dropped -/
theorem Evo.drop {I H I' H' : Hp} {o o' : Addr → Prop} {R : List Addr} (h : Evo I H o I' H' (fun a => a ∈ R ∨ o' a)) : Evo I H o I' H' o' := ⟨h.up, h.fr, fun a z => h.nw a (.inr z), h.ni⟩
def sDrop (te : TEs) : TSs := fun σs D ES => te σs (fun _ σ1 => D.nx σ1) ES
theorem js_expr {m : Bool} (he : JE X ar b1 m e te) (hs : swapsWith e none pos.line X.env = pure false := by rfl) : JS X ar (.Expr e pos) (sDrop te) :=
  PS.mono (ps_expr he.pe hs) fun D σ H ⟨I, F, σs, Ds, ES, st, tx, q, r⟩ =>
    ⟨I, F, σs, _, ES, st, tx, q, fun v r' R I' H' F' σs' ev st' sr nf nI q' => r.nx σ H' ⟨I', F', σs', ev.drop, st', q'⟩⟩
def sRet (te : TEs) : TSs := fun σs D ES => te σs D.rt ES
theorem js_ret (he : JE X ar b1 true e te) : JS X ar (.Return (some e) pos) (sRet te) :=
  ⟨fun pins s σ H D J ⟨I, F, σs, Ds, ES, st, tx, q, r⟩ => (ps_ret he.pe).run pins s σ H D J
    ⟨I, F, σs, _, ES, st, tx, q, fun v r' R I' H' F' σs' ev st' sr nf nI q' => r.rt v H' ⟨r', R, I', σ, F', σs', J.len, ev, st', sr, nf rfl, nI, q'⟩⟩⟩
def sRetN : TSs := fun σs D _ => D.rt (.val .none) σs
theorem js_retN : JS X ar (.Return none pos) sRetN :=
  ⟨fun pins s σ H D J ⟨I, F, σs, Ds, ES, st, tx, q, r⟩ => ps_retN.run pins s σ H D J <| r.rt .non H ⟨.val .none, [], I, σ, F, σs, J.len, ⟨.refl I, fun _ _ h _ => h, fun a z => by
    rcases z with z | z
    · cases z
    · exact .inl z, fun _ _ h => .inl h⟩, st, .val .non, fun a m => absurd m (by simp), fun a m => absurd m (by simp), q⟩⟩
def sIfS (c : TTs) (t u : TSs) : TSs := fun σs D ES => c σs (fun b σ1 => ifb b (t σ1 D ES) (u σ1 D ES)) ES
theorem js_if {c : Expr} {a b : List Stmt} {tc : TTs} (hc : JT X ar b1 c tc) (ha : JSs X ar a t) (hb : JSs X ar b u) : JS X ar (.If c a b pos) (sIfS tc t u) :=
  PS.mono (ps_if hc.pt ha hb) fun D σ H ⟨I, F, σs, Ds, ES, st, tx, q, r⟩ =>
    ⟨I, F, σs, _, ES, st, tx, q, fun c I' H' F' σs' ev st' q' => by
      cases c with
      | true => exact ⟨I', F', σs', Ds, ES, st', tx.go ev (fun _ z => z), q', r.go ev⟩
      | false => exact ⟨I', F', σs', Ds, ES, st', tx.go ev (fun _ z => z), q', r.go ev⟩⟩
def sNever : TSs := fun _ _ _ => False
theorem js_never : JS X ar st sNever := PS.mono ps_never fun D σ H ⟨I, F, σs, Ds, ES, st, tx, q, r⟩ => q
theorem jss_never {sts : List Stmt} : JSs X ar sts sNever := PSs.mono pss_never fun D σ H ⟨I, F, σs, Ds, ES, st, tx, q, r⟩ => q
/-- name = value; the value may be its own -/
def sSet (i : Nat) (te : TEs) : TSs := fun σs D ES => te σs (fun r σ1 => D.nx (sets σ1 i (some r))) ES
/-- name = value, made pure -/
def sSetV (i : Nat) (te : TEs) : TSs := fun σs D ES => te σs (fun r σ1 => nd r.toD fun d => D.nx (sets σ1 i (some (.val d)))) ES
theorem Evo.stored {I H I1 H1 : Hp} {F F1 : Nat → List Addr} {R : List Addr} {i : Nat} (ev : Evo I H (own F) I1 H1 (fun a => a ∈ R ∨ own F1 a)) : Evo I H (own F) I1 H1 (own (put1 F1 i R)) :=
  ⟨ev.up, ev.fr, fun a z => ev.nw a (own_put1 z), ev.ni⟩
theorem StR.lenN {K : PySem.W.Frag} {I H : Hp} {σ : L2.St} {σs : SSt} {F : Nat → List Addr} (st : StR K ar I H σ σs F) : σs.length = σ.length := st.len
theorem js_set {i : Nat} {x : Str} {pos' : Pos} (he : JE X ar b1 true e te) (hp : ar i = none) (hN : X.N.Nodup) (hi : X.N[i]? = some x) (hx : Loc X.env.scope x) (hs : swapsWith e (some (.Name x pos')) pos.line X.env = pure false := by rfl)
    (hf : X.fn x = true ∨ X.env.scope.names.lookup x = some .local := by first | exact .inl rfl | exact .inr rfl | assumption) : JS X ar (.Assign [.Name x pos'] e pos) (sSet i te) := by
  refine ⟨fun pins s σ H D J ⟨I, F, σs, Ds, ES, st, tx, q, r⟩ => ?_⟩
  have hl : i < σs.length := by rw [st.len, J.len]; exact (List.getElem?_eq_some_iff.mp hi).1
  refine (PS.mono (ps_set hN hi hx he.pe hs hf) fun D σ H z => z).run pins s σ H D J ⟨I, F, σs, _, ES, st, tx, q, fun v r' R I' H' F' σs' ev st' sr nf nI q' => ?_⟩
  exact r.nx _ _ ⟨I', put1 F' i R, _, ev.stored, st'.store (by rw [st'.len, ← st.len]; exact hl) sr (nf rfl) nI (.inr hp), q'⟩
theorem js_setv {i : Nat} {x : Str} {pos' : Pos} (he : JE X ar b1 true e te) (hN : X.N.Nodup) (hi : X.N[i]? = some x) (hx : Loc X.env.scope x) (hs : swapsWith e (some (.Name x pos')) pos.line X.env = pure false := by rfl)
    (hf : X.fn x = true ∨ X.env.scope.names.lookup x = some .local := by first | exact .inl rfl | exact .inr rfl | assumption) : JS X ar (.Assign [.Name x pos'] e pos) (sSetV i te) := by
  refine ⟨fun pins s σ H D J ⟨I, F, σs, Ds, ES, st, tx, q, r⟩ => ?_⟩
  have hl : i < σs.length := by rw [st.len, J.len]; exact (List.getElem?_eq_some_iff.mp hi).1
  refine (PS.mono (ps_set hN hi hx he.pe hs hf) fun D σ H z => z).run pins s σ H D J ⟨I, F, σs, _, ES, st, tx, q, fun v r' R I' H' F' σs' ev st' sr nf nI q' => ?_⟩
  obtain ⟨d, ed, q'⟩ := nd_some q'
  have n := nI
  have st2 : StR X.K ar (fz I' H' R) H' σ σs' F' := st'.keep (fz_sub st'.sub) (sub_fz n) (fun _ _ _ z => z) fun a m => by
    rw [fz_out fun z => nf rfl a z m]
    exact st'.ownI m
  have ev2 : Evo I H (own F) (fz I' H' R) H' (own F') := ⟨ev.up.trans (sub_fz n), ev.fr, fun a m => ev.nw a (.inr m), fun a x q => by
    unfold fz at q
    split at q
    · rename_i m
      exact .inr (ev.nw a (.inl m))
    · exact ev.ni a x q⟩
  exact r.nx _ _ ⟨_, put1 F' i [], _, ⟨ev2.up, ev2.fr, fun a z => by
    rcases own_put1 z with z | z
    · cases z
    · exact ev2.nw a z, ev2.ni⟩, st2.store (by rw [st'.len, ← st.len]; exact hl) (.val (sr.freeze ed n)) (fun a m => absurd m (by simp)) (fun a m => absurd m (by simp)) (.inl ⟨d, rfl⟩), q'⟩
end
end SV
/-! SvK: targets; what a loop walks; for, while; comprehensions. -/
namespace SV
open PySem PySem.Spec PyProof.Rows L2

/-! ### targets: pure data is stored -/
abbrev TGt := PyData → SSt → Option SSt
abbrev TGts := List PyData → SSt → Option SSt
def liG (X : Cx) (ar : Nat → Option V) (g : TGt) (ts : List Nat) : TG := fun v σ H Q => ∃ I F σs d σ1, StR X.K ar I H σ σs F ∧ PR X.K I v d ∧ g d σs = some σ1 ∧
  ∀ σ' F', σ'.length = σ.length → (∀ j, j ∉ ts → σ'[j]? = σ[j]?) → (∀ a, own F' a → own F a) → StR X.K ar I H σ' σ1 F' → Q σ' H
def liGs (X : Cx) (ar : Nat → Option V) (g : TGts) (ts : List Nat) : TGs := fun vs σ H Q => ∃ I F σs ds σ1, StR X.K ar I H σ σs F ∧ PRs X.K I vs ds ∧ g ds σs = some σ1 ∧
  ∀ σ' F', σ'.length = σ.length → (∀ j, j ∉ ts → σ'[j]? = σ[j]?) → (∀ a, own F' a → own F a) → StR X.K ar I H σ' σ1 F' → Q σ' H
def JG (X : Cx) (ar : Nat → Option V) (tg : Expr) (g : TGt) (ts : List Nat) : Prop := PG X tg (liG X ar g ts)
def JGs (X : Cx) (ar : Nat → Option V) (tgs : List Expr) (g : TGts) (ts : List Nat) : Prop := PGs X tgs (liGs X ar g ts)
theorem PG.mono {X : Cx} {tg : Expr} {t t' : TG} (h : PG X tg t) (i : ∀ v σ H Q, t' v σ H Q → t v σ H Q) : PG X tg t' := ⟨fun pins s σ H v u Q J rv q => h.run pins s σ H v u Q J rv (i v σ H Q q)⟩
theorem PGs.mono {X : Cx} {tg : List Expr} {t t' : TGs} (h : PGs X tg t) (i : ∀ v σ H Q, t' v σ H Q → t v σ H Q) : PGs X tg t' := ⟨fun pins s σ H v u Q J rv q => h.run pins s σ H v u Q J rv (i v σ H Q q)⟩
def gVar (i : Nat) : TGt := fun d σs => if i < σs.length then some (sets σs i (some (.val d))) else none
def gSeq (g : TGts) : TGt := fun d σs => match d with
  | .tuple ds => g ds σs
  | _ => none
def gsNil : TGts := fun ds σs => match ds with
  | [] => some σs
  | _ => none
def gsCons (g : TGt) (r : TGts) : TGts := fun ds σs => match ds with
  | d :: ds => (g d σs).bind fun σ1 => r ds σ1
  | [] => none
section
variable {X : Cx} {ar : Nat → Option V} {pos : Pos}
theorem jg_name {i : Nat} {x : Str} (hN : X.N.Nodup) (hi : X.N[i]? = some x) (hx : Loc X.env.scope x) (hf : X.fn x = true ∨ X.env.scope.names.lookup x = some .local := by first | exact .inl rfl | exact .inr rfl | assumption) : JG X ar (.Name x pos) (gVar i) [i] := by
  refine PG.mono (pg_name hN hi hx hf) fun v σ H Q ⟨I, F, σs, d, σ1, st, pr, e, f⟩ => ?_
  unfold gVar at e
  split at e
  · rename_i hl
    cases e
    refine f (σ.set i (some v)) (put1 F i []) (by simp) (fun j hj => ?_) (fun a m => ?_) (st.store hl (.val pr) (fun a m => absurd m (by simp)) (fun a m => absurd m (by simp)) (.inl ⟨d, rfl⟩))
    · rw [List.getElem?_set_ne (by simpa using fun e => hj (by simp [e]))]
    · rcases own_put1 m with m | m
      · cases m
      · exact m
  · cases e
theorem jgs_nil : JGs X ar [] gsNil [] := by
  refine PGs.mono pgs_nil fun vs σ H Q ⟨I, F, σs, ds, σ1, st, pr, e, f⟩ => ?_
  cases pr with
  | nil =>
    cases e
    exact ⟨rfl, f σ F rfl (fun _ _ => rfl) (fun _ m => m) st⟩
  | cons _ _ => cases e
theorem jgs_cons {e : Expr} {es : List Expr} {g : TGt} {r : TGts} {ts ts' : List Nat} (h1 : JG X ar e g ts) (h2 : JGs X ar es r ts') (hs : (assignEach (e :: es) X.env).map (·.2) = assign e X.env :: (assignEach es X.env).map (·.2) := by rfl) : JGs X ar (e :: es) (gsCons g r) (ts ++ ts') := by
  refine PGs.mono (pgs_cons h1 h2 hs) fun vs σ H Q ⟨I, F, σs, ds, σ1, st, pr, e, f⟩ => ?_
  cases pr with
  | nil => cases e
  | cons p1 p2 =>
    obtain ⟨σ2, e1, e2⟩ := Option.bind_eq_some_iff.mp (show (g _ σs).bind (fun σ1 => r _ σ1) = some σ1 from e)
    refine ⟨_, _, rfl, I, F, σs, _, σ2, st, p1, e1, fun σ' F' l k o st' => ?_⟩
    refine ⟨I, F', σ2, _, σ1, st', p2, e2, fun σ'' F'' l' k' o' st'' => ?_⟩
    refine f σ'' F'' (l'.trans l) (fun j hj => ?_) (fun a m => o a (o' a m)) st''
    rw [List.mem_append, not_or] at hj
    rw [k' j hj.2, k j hj.1]
theorem jg_tup {es : List Expr} {k : Nat} {g : TGts} {ts : List Nat} {n : Nat} (hc : X.calm = true) (h : JGs X ar es g ts) (hl : ∀ ds σs σ1, g ds σs = some σ1 → ds.length = n) (hn : (assignEach es X.env).length = n := by rfl) (hst : (assignEach es X.env).findIdx? (·.1) = none := by rfl) :
    JG X ar (.Tuple es k pos) (gSeq g) ts := by
  refine PG.mono (pg_tup hc h hn hst) fun v σ H Q ⟨I, F, σs, d, σ1, st, pr, e, f⟩ => ?_
  cases pr with
  | tup hq p => exact ⟨_, _, rfl, SqT.sub st.sub hq, by rw [p.length]; exact hl _ _ _ e, I, F, σs, _, σ1, st, p, e, f⟩
  | _ => cases e
theorem len_nil : ∀ (ds : List PyData) (σs σ1 : SSt), gsNil ds σs = some σ1 → ds.length = 0
  | [], _, _, _ => rfl
  | _ :: _, _, _, h => by cases h
theorem len_cons {g : TGt} {r : TGts} {n : Nat} (h : ∀ ds σs σ1, r ds σs = some σ1 → ds.length = n) : ∀ ds σs σ1, gsCons g r ds σs = some σ1 → ds.length = n + 1
  | [], _, _, h => by cases h
  | d :: ds, σs, σ1, e => by
    obtain ⟨σ2, e1, e2⟩ := Option.bind_eq_some_iff.mp (show (g d σs).bind (fun σ1 => r ds σ1) = some σ1 from e)
    simp [h ds σ2 σ1 e2]
end

/-! ### what is walked -/
structure Walk (K : PySem.W.Frag) (I : Hp) (J : It) (ds : List PyData) : Prop where
  go : ∀ I1 H1, Sub I I1 → Sub I1 H1 → ∀ i d, ds[i]? = some d → J.go i H1 ∧ ∀ x H3, J.yld i H1 x H3 → ∃ I3, Sub I1 I3 ∧ Sub I3 H3 ∧ Sub H1 H3 ∧ (∀ a y, I3 a = some y → I1 a = some y ∨ H1 a = none) ∧ PR K I3 x d
  stop : ∀ I1 H1, Sub I I1 → Sub I1 H1 → ∀ i, ds.length ≤ i → J.stop i H1
theorem Walk.list {K : PySem.W.Frag} {I : Hp} {a : Addr} {vs : List V} {ds : List PyData} (h : SqL K I a vs) (p : PRs K I vs ds) : Walk K I (Itl K a) ds := by
  refine ⟨fun I1 H1 s1 s2 i d e => ?_, fun I1 H1 s1 s2 i hi => ⟨vs, SqL.sub s2 (SqL.sub s1 h), by rw [p.length]; exact hi⟩⟩
  obtain ⟨v, ev, pv⟩ := p.get e
  have hq := SqL.sub s2 (SqL.sub s1 h)
  refine ⟨⟨vs, v, hq, ev⟩, fun x H3 ⟨eH, hx⟩ => ?_⟩
  subst eH
  have := hx vs hq
  rw [ev] at this
  cases this
  exact ⟨I1, .refl _, s2, .refl _, fun _ _ z => .inl z, pv.sub s1⟩
theorem Walk.tup {K : PySem.W.Frag} {I : Hp} {a : Addr} {vs : List V} {ds : List PyData} (h : SqT K I a vs) (p : PRs K I vs ds) : Walk K I (Itt K a) ds := by
  refine ⟨fun I1 H1 s1 s2 i d e => ?_, fun I1 H1 s1 s2 i hi => ⟨vs, SqT.sub s2 (SqT.sub s1 h), by rw [p.length]; exact hi⟩⟩
  obtain ⟨v, ev, pv⟩ := p.get e
  have hq := SqT.sub s2 (SqT.sub s1 h)
  refine ⟨⟨vs, v, hq, ev⟩, fun x H3 ⟨eH, hx⟩ => ?_⟩
  subst eH
  have := hx vs hq
  rw [ev] at this
  cases this
  exact ⟨I1, .refl _, s2, .refl _, fun _ _ z => .inl z, pv.sub s1⟩
def chrD (x : Str) : List PyData := x.cps.toList.map fun c => .str ⟨#[c]⟩
theorem Walk.str {K : PySem.W.Frag} {I : Hp} {x : Str} (ok : PyData.strOk x = true) : Walk K I (Its x) (chrD x) := by
  refine ⟨fun I1 H1 s1 s2 i d e => ?_, fun I1 H1 s1 s2 i hi => by
    show x.cps.size ≤ i
    simpa [chrD] using hi⟩
  have hi : i < x.cps.size := by
    have := (List.getElem?_eq_some_iff.mp e).1
    simpa [chrD] using this
  refine ⟨hi, fun v H3 ⟨eH, c, ec, ev⟩ => ?_⟩
  subst eH ev
  have ed : d = .str ⟨#[c]⟩ := by
    unfold chrD at e
    rw [List.getElem?_map, Array.getElem?_toList, ec] at e
    exact (Option.some.inj e).symm
  subst ed
  refine ⟨I1, .refl _, s2, .refl _, fun _ _ z => .inl z, .str _ ?_ (by show 1 ≤ sizeLine; decide)⟩
  rw [strOk_iff] at ok ⊢
  intro c' hc'
  have : c' = c := by simpa using hc'
  subst this
  exact ok _ (by
    have := Array.mem_of_getElem? ec
    simpa using this)
def rangeD (lo hi : Int) : List PyData := (List.range (hi - lo).toNat).map fun i => .int (lo + (i : Nat))
theorem Walk.range {K : PySem.W.Frag} {I : Hp} {lo hi : Int} : Walk K I (Itr lo (hi - lo).toNat) (rangeD lo hi) := by
  refine ⟨fun I1 H1 s1 s2 i d e => ?_, fun I1 H1 s1 s2 i hk => by
    show (hi - lo).toNat ≤ i
    unfold rangeD at hk
    rw [List.length_map, List.length_range] at hk
    exact hk⟩
  have hi : i < (hi - lo).toNat := by
    have := (List.getElem?_eq_some_iff.mp e).1
    simpa [rangeD] using this
  refine ⟨hi, fun v H3 ⟨eH, ev⟩ => ?_⟩
  subst eH ev
  have ed : d = .int (lo + (i : Nat)) := by
    unfold rangeD at e
    rw [List.getElem?_map, List.getElem?_range hi] at e
    exact (Option.some.inj e).symm
  subst ed
  exact ⟨I1, .refl _, s2, .refl _, fun _ _ z => .inl z, .int _⟩

abbrev TIs := SSt → (List PyData → SSt → Prop) → XS → Prop
def liI (X : Cx) (ar : Nat → Option V) (ti : TIs) : TI := fun σ H R => ∃ I F σs Qk ES, StR X.K ar I H σ σs F ∧ TX X ar I H (own F) ES ∧ ti σs Qk ES ∧
  ∀ I' H' F' σs' ds J, Evo I H (own F) I' H' (own F') → StR X.K ar I' H' σ σs' F' → Walk X.K I' J ds → Qk ds σs' → R J H'
def JI (X : Cx) (ar : Nat → Option V) (tg iter : Expr) (ti : TIs) : Prop := PI X tg iter (liI X ar ti)
theorem PI.mono {X : Cx} {tg e : Expr} {t t' : TI} (h : PI X tg e t) (i : ∀ σ H R, t' σ H R → t σ H R) : PI X tg e t' := ⟨fun pins s σ H R J q => h.run pins s σ H R J (i σ H R q)⟩
def sItems (m : Bool) : S → Option (List PyData)
  | .val (.list ds) => some ds
  | .val (.tuple ds) => some ds
  | .val (.str x) => some (chrD x)
  | .lst ds => if m = true then some ds else none
  | .scr ns => some (ns.map .int)
  | _ => none
def iSeq (m : Bool) (te : TEs) : TIs := fun σs Q ES => te σs (fun r σ1 => nd (sItems m r) fun ds => Q ds σ1) ES
def iRg1 (te : TEs) : TIs := fun σs Q ES => te σs (fun r σ1 => match r with
  | .val (.int j) => (-(2 ^ 62) ≤ j ∧ j < 2 ^ 62) ∧ Q (rangeD 0 j) σ1
  | _ => False) ES
section
variable {X : Cx} {ar : Nat → Option V} {tg e : Expr} {te : TEs} {b m : Bool} {p pos : Pos}
theorem it_list {pins : List (Addr × Obj)} {σ : L2.St} {H : Hp} {s : Shared} {a : Addr} {xs : List V} {R : It → Hp → Prop} {E : Value → Shared → Prop} (J : Inv X pins σ H s) (hq : SqL X.K H a xs) (q : R (Itl X.K a) H) :
    wpAny (model X.prog X.w) X.A (pyIter (.ref a)) (PIE X pins σ tg R) E s := by
  obtain ⟨its, rv, p, hz⟩ := J.list hq
  refine wpAny_pyIter_list p.isList (pi_one (tk := s.toks) J _ (turn_list a _) ⟨_, Heap.get?_push_size _ rfl, rfl, rfl⟩ q)
theorem it_tup {pins : List (Addr × Obj)} {σ : L2.St} {H : Hp} {s : Shared} {a : Addr} {xs : List V} {R : It → Hp → Prop} {E : Value → Shared → Prop} (J : Inv X pins σ H s) (hq : SqT X.K H a xs) (q : R (Itt X.K a) H) :
    wpAny (model X.prog X.w) X.A (pyIter (.ref a)) (PIE X pins σ tg R) E s := by
  obtain ⟨its, rv, p, hz⟩ := J.tuple hq
  refine wpAny_pyIter_tuple (show s.heap.IsTuple a its.toArray from p) (pi_one (tk := s.toks) J _ (turn_tuple a _) ⟨_, Heap.get?_push_size _ rfl, rfl, rfl⟩ q)
theorem it_str {pins : List (Addr × Obj)} {σ : L2.St} {H : Hp} {s : Shared} {x : Str} {t : Tok} {R : It → Hp → Prop} {E : Value → Shared → Prop} (J : Inv X pins σ H s) (q : R (Its x) H) :
    wpAny (model X.prog X.w) X.A (pyIter (.str x t)) (PIE X pins σ tg R) E s := by
  cases ha : x.cps.all (· < 128)
  · exact wpAny_pyIter_wide ha (pi_one (tk := s.toks) J _ (turn_str _ x t "str_iterator" (.inr rfl)) ⟨_, Heap.get?_push_size _ rfl, rfl, rfl⟩ q)
  · exact wpAny_pyIter_ascii ha (pi_one (tk := s.toks) J _ (turn_str _ x t "str_ascii_iterator" (.inl rfl)) ⟨_, Heap.get?_push_size _ rfl, rfl, rfl⟩ q)
theorem ji_seq (he : JE X ar b m e te) : JI X ar tg e (iSeq m te) := by
  refine ⟨fun pins s σ H R J ⟨I, F, σs, Qk, ES, st, tx, q, f⟩ => ?_⟩
  refine thn (he.run pins s σ I H F σs _ ES J st tx q) fun u s1 ⟨v, r, Rr, I1, H1, F1, σ1, d, rv, q1⟩ => ?_
  obtain ⟨ds, ed, q1⟩ := nd_some q1
  have sr := d.sr
  cases r with
  | val y =>
    obtain ⟨eR, pr⟩ := sr.val_inv
    subst eR
    have ev : Evo I H (own F) I1 H1 (own F1) := d.evo.drop
    cases pr with
    | lst h p2 =>
      cases ed
      cases rv
      exact it_list d.inv (SqL.of (d.st.sub _ _ h)) (f I1 H1 F1 σ1 _ _ ev d.st (.list (SqL.of h) p2) q1)
    | tup h p2 =>
      cases ed
      cases rv
      exact it_tup d.inv (SqT.sub d.st.sub h) (f I1 H1 F1 σ1 _ _ ev d.st (.tup h p2) q1)
    | str x ok hz =>
      cases ed
      obtain ⟨t, rfl⟩ := rv
      exact it_str d.inv (f I1 H1 F1 σ1 _ _ ev d.st (.str ok) q1)
    | _ => cases ed
  | lst ds0 =>
    have hm : m = true := by
      have ed' : (if m = true then some ds0 else none) = some ds := ed
      by_cases h : m = true
      · exact h
      · rw [if_neg h] at ed'
        cases ed'
    subst hm
    obtain ⟨hb, pr⟩ := d.freeze (d := .list ds0) rfl
    cases ed
    cases pr with
    | lst h p2 =>
      cases rv
      exact it_list hb.inv (SqL.of (hb.st.sub _ _ h)) (f _ H1 F1 σ1 _ _ hb.evo hb.st (.list (SqL.of h) p2) q1)
  | scr ns =>
    cases ed
    generalize e0 : S.scr ns = r0 at sr
    cases sr with
    | scr hq =>
      cases e0
      cases rv
      exact it_list d.inv (SqL.sub d.st.sub hq) (f I1 H1 F1 σ1 _ _ d.evo.drop d.st (.list hq (PRs.ints _)) q1)
    | _ => cases e0
  | _ => cases ed
theorem ji_range1 (hg : Gl X "range") (hm : X.mg "range" = none) (he : JE X ar b m e te) (hs : starEach [e] X.env = [(false, eval e X.env)] := by rfl) : JI X ar tg (.Call (.Name "range" p) [e] [] pos) (iRg1 te) := by
  refine PI.mono (pi_range1 hg hm (pa_cons he.pe pa_nil hs) hs) fun σ H R ⟨I, F, σs, Qk, ES, st, tx, q, f⟩ => ?_
  refine ⟨I, F, σs, _, ES, st, tx, q, fun v r R' I' H' F' σs' ev st' sr nf nI q' => ?_⟩
  cases r with
  | val y =>
    obtain ⟨eR, pr⟩ := sr.val_inv
    subst eR
    cases y with
    | int j =>
      cases pr
      exact ⟨j, rfl, q'.1.1, q'.1.2, f I' H' F' σs' _ _ ev.drop st' (by simpa using Walk.range (lo := 0) (hi := j)) q'.2⟩
    | _ => exact q'.elim
  | _ => exact q'.elim
end

/-! ### for, while -/
def forT (g : TGt) (tb : TSs) : List PyData → TSs
  | [], σs, D, _ => D.nx σs
  | d :: ds, σs, D, ES => nd (g d σs) fun σ1 => tb σ1 { D with nx := fun σ2 => forT g tb ds σ2 D ES, ct := fun σ2 => forT g tb ds σ2 D ES, bk := D.nx } ES
def sFor (ti : TIs) (g : TGt) (tb : TSs) : TSs := fun σs D ES => ti σs (fun ds σ1 => forT g tb ds σ1 D ES) ES
def whileT (c : TTs) (tb : TSs) : Nat → TSs
  | 0, _, _, _ => False
  | n + 1, σs, D, ES => c σs (fun b σ1 => ifb b (tb σ1 { D with nx := fun σ2 => whileT c tb n σ2 D ES, ct := fun σ2 => whileT c tb n σ2 D ES, bk := D.nx } ES) (D.nx σ1)) ES
def sWhile (c : TTs) (tb : TSs) : TSs := fun σs D ES => ∃ n, whileT c tb n σs D ES
section
variable {X : Cx} {ar : Nat → Option V} {tg iter c : Expr} {body : List Stmt} {ti : TIs} {g : TGt} {ts : List Nat} {tc : TTs} {tb : TSs} {b1 : Bool} {pos : Pos}
theorem Evo.sameo {I H I1 H1 : Hp} {o o1 o2 : Addr → Prop} (h : Evo I H o I1 H1 o1) (k : ∀ a, o2 a → o1 a) : Evo I H o I1 H1 o2 := ⟨h.up, h.fr, fun a z => h.nw a (k a z), h.ni⟩
theorem js_for (hp : PassesOwn (model X.prog X.w) X.A X.env X.xe) (hc : X.calm = true) (hi : JI X ar tg iter ti) (hg : JG X ar tg g ts) (hb : JSs X ar body tb) (hs : ∀ x, foldedSetIterable iter X.env x = pure x := by intro _; rfl) :
    JS X ar (.For tg iter body [] pos) (sFor ti g tb) := by
  refine PS.mono (ps_for hp hc hi hg hb hs) fun D σ H ⟨I, F, σs, Ds, ES, st, tx, q, r⟩ => ?_
  refine ⟨I, F, σs, _, ES, st, tx, q, fun I1 H1 F1 σ1 ds J ev st1 W q1 => ?_⟩
  refine ⟨fun i n σ' H' => n = ds.length - i ∧ i ≤ ds.length ∧ ∃ I' F' σs', Evo I H (own F) I' H' (own F') ∧ Sub I1 I' ∧ StR X.K ar I' H' σ' σs' F' ∧ forT g tb (ds.drop i) σs' Ds ES, ⟨ds.length, by simp, Nat.zero_le _, I1, F1, σ1, ev, .refl _, st1, by simpa using q1⟩, ?_⟩
  rintro i n σ' H' ⟨rfl, hi, I', F', σs', ev', sb', st', q'⟩
  by_cases hlt : i < ds.length
  · have eg : ds[i]? = some ds[i] := List.getElem?_eq_getElem hlt
    rw [List.drop_eq_getElem_cons hlt] at q'
    obtain ⟨σ2, e2, q2⟩ := nd_some q'
    obtain ⟨go, yl⟩ := W.go I' H' sb' st'.sub i _ eg
    refine .inr ⟨go, fun σ'' H'' => i + 1 ≤ ds.length ∧ ∃ I'' F'' σs'', Evo I H (own F) I'' H'' (own F'') ∧ Sub I1 I'' ∧ StR X.K ar I'' H'' σ'' σs'' F'' ∧ forT g tb (ds.drop (i + 1)) σs'' Ds ES, fun σ'' H'' z => ⟨ds.length - (i + 1), by omega, rfl, z.1, z.2⟩, fun x H3 y3 => ?_⟩
    obtain ⟨I3, u1, u2, u3, u4, px⟩ := yl x H3 y3
    have ev3 : Evo I' H' (own F') I3 H3 (own F') := ⟨u1, fun a x e _ => u3 a x e, fun a z => .inl z, fun a y e => (u4 a y e).imp id .inr⟩
    have st3 : StR X.K ar I3 H3 σ' σs' F' := st'.keep u2 u1 (fun a _ x e => u3 a x e) fun a m => by
      cases e : I3 a with
      | none => rfl
      | some y =>
        rcases u4 a y e with e | e
        · rw [st'.ownI m] at e
          cases e
        · obtain ⟨z, e2⟩ := st'.there m
          rw [e] at e2
          cases e2
    refine ⟨I3, F', σs', _, σ2, st3, px, e2, fun σ4 F4 l4 k4 o4 st4 => ?_⟩
    have ev4 : Evo I H (own F) I3 H3 (own F4) := (ev'.trans ev3 (fun _ z => z) (fun _ z => .inr z)).sameo o4
    refine ⟨I3, F4, σ2, _, ES, st4, tx.go ev4 (fun _ z => z), q2, ⟨fun σ'' H'' ⟨I'', F'', σs'', e, s, q⟩ => ?_, fun σ'' H'' z => r.nx _ _ (z.go ev4), fun σ'' H'' ⟨I'', F'', σs'', e, s, q⟩ => ?_, fun v H'' z => r.rt _ _ (z.go ev4)⟩⟩
    · exact ⟨hlt, I'', F'', σs'', ev4.trans e (fun _ z => z) (fun _ z => .inr z), (sb'.trans u1).trans e.up, s, q⟩
    · exact ⟨hlt, I'', F'', σs'', ev4.trans e (fun _ z => z) (fun _ z => .inr z), (sb'.trans u1).trans e.up, s, q⟩
  · have ei : i = ds.length := by omega
    subst ei
    rw [List.drop_length] at q'
    exact .inl ⟨W.stop I' H' sb' st'.sub _ (Nat.le_refl _), r.nx _ _ ⟨I', F', σs', ev', st', q'⟩⟩
theorem js_while (hp : PassesOwn (model X.prog X.w) X.A X.env X.xe) (hc : JT X ar b1 c tc) (hb : JSs X ar body tb) : JS X ar (.While c body [] pos) (sWhile tc tb) := by
  refine PS.mono (ps_while hp hc.pt hb) fun D σ H ⟨I, F, σs, Ds, ES, st, tx, ⟨n, q⟩, r⟩ => ?_
  refine ⟨fun n σ' H' => ∃ I' F' σs', Evo I H (own F) I' H' (own F') ∧ StR X.K ar I' H' σ' σs' F' ∧ whileT tc tb n σs' Ds ES, ⟨n, I, F, σs, .refl _ _ _, st, q⟩, ?_⟩
  rintro n σ' H' ⟨I', F', σs', ev', st', q'⟩
  cases n with
  | zero => exact (show False from q').elim
  | succ n =>
    refine ⟨I', F', σs', _, ES, st', tx.go ev' (fun _ z => z), q', fun b I2 H2 F2 σ2 ev2 st2 q2 => ?_⟩
    have ev3 := ev'.trans ev2 (fun _ z => z) (fun _ z => .inr z)
    cases b with
    | false =>
      dsimp only
      rw [if_neg (by decide)]
      exact r.nx _ _ ⟨I2, F2, σ2, ev3, st2, q2⟩
    | true =>
      dsimp only
      rw [if_pos rfl]
      refine ⟨fun σ'' H'' => ∃ I'' F'' σs'', Evo I H (own F) I'' H'' (own F'') ∧ StR X.K ar I'' H'' σ'' σs'' F'' ∧ whileT tc tb n σs'' Ds ES, fun σ'' H'' z => ⟨n, Nat.lt_succ_self n, z⟩, ?_⟩
      refine ⟨I2, F2, σ2, _, ES, st2, tx.go ev3 (fun _ z => z), q2, ⟨fun σ'' H'' ⟨I'', F'', σs'', e, s, q⟩ => ⟨I'', F'', σs'', ev3.trans e (fun _ z => z) (fun _ z => .inr z), s, q⟩, fun σ'' H'' z => r.nx _ _ (z.go ev3), fun σ'' H'' ⟨I'', F'', σs'', e, s, q⟩ => ⟨I'', F'', σs'', ev3.trans e (fun _ z => z) (fun _ z => .inr z), s, q⟩, fun v H'' z => r.rt _ _ (z.go ev3)⟩⟩
end

/-! ### for over an own list that the body leaves as it is -/
def forVT (i : Nat) (ds0 : List PyData) (g : TGt) (tb : TSs) : List PyData → TSs
  | [], σs, D, _ => gets σs i = some (.lst ds0) ∧ D.nx σs
  | d :: ds, σs, D, ES => gets σs i = some (.lst ds0) ∧ nd (g d σs) fun σ1 => tb σ1 { D with nx := fun σ2 => forVT i ds0 g tb ds σ2 D ES, ct := fun σ2 => forVT i ds0 g tb ds σ2 D ES, bk := D.nx } ES
def sForV (i : Nat) (g : TGt) (tb : TSs) : TSs := fun σs D ES => match gets σs i with
  | some (.lst ds0) => forVT i ds0 g tb ds0 σs D ES
  | _ => False
section
variable {X : Cx} {ar : Nat → Option V} {tg : Expr} {body : List Stmt} {g : TGt} {ts : List Nat} {tb : TSs} {pos npos : Pos}
theorem StR.prot {K : PySem.W.Frag} {I H : Hp} {σ : L2.St} {σs : SSt} {F : Nat → List Addr} (h : StR K ar I H σ σs F) {i : Nat} {v : V} (e : σ[i]? = some (some v)) : StR K (prot ar i v) I H σ σs F :=
  ⟨h.sub, h.rep, h.non, h.dis, h.notI, fun j w r a q => by
    unfold SV.prot at a
    split at a
    · rename_i ej
      cases a
      subst ej
      exact .inr e
    · exact h.par j w r a q, h.len⟩
theorem StR.unprot {K : PySem.W.Frag} {I H : Hp} {σ : L2.St} {σs : SSt} {F : Nat → List Addr} {i : Nat} {v : V} (h : StR K (SV.prot ar i v) I H σ σs F) (hv : ∀ w, ar i = some w → v = w) : StR K ar I H σ σs F :=
  ⟨h.sub, h.rep, h.non, h.dis, h.notI, fun j w r a q => by
    by_cases ej : j = i
    · subst ej
      have := h.par j v r (by unfold SV.prot; rw [if_pos rfl]) q
      rw [hv w a] at this
      exact this
    · exact h.par j w r (by unfold SV.prot; rw [if_neg ej]; exact a) q, h.len⟩
theorem js_forV (i : Nat) {x : Str} (hp : PassesOwn (model X.prog X.w) X.A X.env X.xe) (hc : X.calm = true) (hg : ∀ v, JG X (prot ar i v) tg g ts) (hb : ∀ v, JSs X (prot ar i v) body tb)
    (hN : X.N[i]? = some x := by rfl) (hv : Vis X.env.scope x := by first | exact Or.inl rfl | exact Or.inr (Or.inl rfl) | exact Or.inr (Or.inr rfl)) (hd : (x == ("__debug__" : Str)) = false := by decide) (hcd : (x == ("__classdict__" : Str)) = false := by decide)
    (hs : ∀ y, foldedSetIterable (.Name x npos) X.env y = pure y := by intro _; rfl) : JS X ar (.For tg (.Name x npos) body [] pos) (sForV i g tb) := by
  refine ⟨fun pins s σ H D J ⟨I, F, σs, Ds, ES, st, tx, q, r⟩ => ?_⟩
  unfold sForV at q
  cases g0 : gets σs i with
  | none => rw [g0] at q; exact q.elim
  | some r0 =>
    rw [g0] at q
    cases r0 with
    | lst ds =>
      obtain ⟨v, e1, sr⟩ := st.rep i _ g0
      obtain ⟨a, vs0, rfl, eF0, hH0, p0⟩ := sr.lst_inv
      have st0 := st.prot e1
      have back : ∀ {N : SSt → Prop} {σ' : L2.St} {H' : Hp}, Bh X (prot ar i (.ref a)) I H F N σ' H' → Bh X ar I H F N σ' H' := fun {N σ' H'} ⟨I', F', σs', e, s', q'⟩ => ⟨I', F', σs', e, s'.unprot fun w hw => by
        rcases st.par i w _ hw g0 with ⟨d, z⟩ | z
        · cases z
        · rw [e1] at z
          exact Option.some.inj (Option.some.inj z), q'⟩
      have backR : ∀ {Q : QS} {v : V} {H' : Hp}, Rt X (prot ar i (.ref a)) I H F Q v H' → Rt X ar I H F Q v H' := fun {Q v H'} ⟨r1, R, I', σ', F', σs', hn, e, s', q'⟩ => ⟨r1, R, I', σ', F', σs', hn, e, s'.unprot fun w hw => by
        rcases st.par i w _ hw g0 with ⟨d, z⟩ | z
        · cases z
        · rw [e1] at z
          exact Option.some.inj (Option.some.inj z), q'⟩
      have tx0 : TX X (prot ar i (.ref a)) I H (own F) ES := by
        obtain ⟨W, tk, f⟩ := tx
        refine ⟨W, tk, fun cls d σ' I' H' F' σs' ed ev s' hed q' => f cls d σ' I' H' F' σs' ed ev (s'.unprot fun w hw => ?_) hed q'⟩
        rcases st.par i w _ hw g0 with ⟨d, z⟩ | z
        · cases z
        · rw [e1] at z
          exact Option.some.inj (Option.some.inj z)
      refine (ps_for hp hc (pi_list (pe_var hN hv hd hcd)) (hg (.ref a)) (hb (.ref a)) hs).run pins s σ H D J ⟨.ref a, e1, a, rfl, ⟨vs0, SqL.of hH0⟩, ?_⟩
      refine ⟨fun k n σ' H' => n = ds.length - k ∧ k ≤ ds.length ∧ ∃ I' F' σs', Evo I H (own F) I' H' (own F') ∧ StR X.K (prot ar i (.ref a)) I' H' σ' σs' F' ∧ forVT i ds g tb (ds.drop k) σs' Ds ES, ⟨ds.length, by simp, Nat.zero_le _, I, F, σs, .refl _ _ _, st0, by simpa using q⟩, ?_⟩
      rintro k n σ' H' ⟨rfl, hk, I', F', σs', ev', st', q'⟩
      -- the list as it stands
      have at_a : gets σs' i = some (.lst ds) → ∃ vs', H' a = some (.lst vs') ∧ PRs X.K I' vs' ds := fun e => by
        obtain ⟨v', e2, sr'⟩ := st'.rep i _ e
        obtain ⟨a', vs', rfl, _, hH', p'⟩ := sr'.lst_inv
        rcases st'.par i (.ref a) _ (by unfold SV.prot; rw [if_pos rfl]) e with ⟨d, z⟩ | z
        · cases z
        · rw [e2] at z
          cases z
          exact ⟨vs', hH', p'⟩
      by_cases hlt : k < ds.length
      · rw [List.drop_eq_getElem_cons hlt] at q'
        obtain ⟨e3, q2⟩ := (show gets σs' i = some (.lst ds) ∧ _ from q')
        obtain ⟨vs', hH', p'⟩ := at_a e3
        obtain ⟨σ2, e2, q2⟩ := nd_some q2
        obtain ⟨w', ew, pw⟩ := p'.get (List.getElem?_eq_getElem hlt)
        refine .inr ⟨⟨vs', w', SqL.of hH', ew⟩, fun σ'' H'' => k + 1 ≤ ds.length ∧ ∃ I'' F'' σs'', Evo I H (own F) I'' H'' (own F'') ∧ StR X.K (prot ar i (.ref a)) I'' H'' σ'' σs'' F'' ∧ forVT i ds g tb (ds.drop (k + 1)) σs'' Ds ES, fun σ'' H'' z => ⟨ds.length - (k + 1), by omega, rfl, z.1, z.2⟩, fun y H3 ⟨eH, hy⟩ => ?_⟩
        subst eH
        have := hy vs' (SqL.of hH')
        rw [ew] at this
        cases this
        refine ⟨I', F', σs', _, σ2, st', pw, e2, fun σ4 F4 l4 k4 o4 st4 => ?_⟩
        have ev4 : Evo I H (own F) I' H3 (own F4) := ev'.sameo o4
        refine ⟨I', F4, σ2, _, ES, st4, tx0.go ev4 (fun _ z => z), q2, ⟨fun σ'' H'' ⟨I'', F'', σs'', e, s, q⟩ => ?_, fun σ'' H'' z => r.nx _ _ (back (z.go ev4)), fun σ'' H'' ⟨I'', F'', σs'', e, s, q⟩ => ?_, fun v H'' z => r.rt _ _ (backR (z.go ev4))⟩⟩
        · exact ⟨hlt, I'', F'', σs'', ev4.trans e (fun _ z => z) (fun _ z => .inr z), s, q⟩
        · exact ⟨hlt, I'', F'', σs'', ev4.trans e (fun _ z => z) (fun _ z => .inr z), s, q⟩
      · have ei : k = ds.length := by omega
        subst ei
        rw [List.drop_length] at q'
        obtain ⟨e3, q2⟩ := (show gets σs' i = some (.lst ds) ∧ _ from q')
        obtain ⟨vs', hH', p'⟩ := at_a e3
        exact .inl ⟨⟨vs', SqL.of hH', by rw [p'.length]; exact Nat.le_refl _⟩, r.nx _ _ (back ⟨I', F', σs', ev', st', q2⟩)⟩
    | _ => exact q.elim
end
end SV
/-! SvL: list comprehensions. -/
namespace SV
open PySem PySem.Spec PyProof.Rows L2

def noX : XS := fun _ _ _ => False
/-- what stands behind an expression -/
def OutE (K : PySem.W.Frag) (ar : Nat → Option V) (I H : Hp) (F : Nat → List Addr) (σ : L2.St) (Qk : KS) : VK := fun v H' =>
  ∃ r R I' F' σs', Evo I H (own F) I' H' (fun a => a ∈ R ∨ own F' a) ∧ StR K ar I' H' σ σs' F' ∧ SR K I' H' v r R ∧ (∀ a ∈ R, ¬ own F' a) ∧ (∀ a ∈ R, I' a = none) ∧ Qk r σs'
def liEn (K : PySem.W.Frag) (ar : Nat → Option V) (t : TEs) : TE := fun σ H Q => ∃ I F σs Qk, StR K ar I H σ σs F ∧ t σs Qk noX ∧ ∀ v H', OutE K ar I H F σ Qk v H' → Q v H'
theorem JE.pen {X : Cx} {ar : Nat → Option V} {b : Bool} {e : Expr} {t : TEs} (h : JE X ar b true e t) : PE X e (liEn X.K ar t) :=
  ⟨fun pins s σ H Q J ⟨I, F, σs, Qk, st, q, f⟩ => thn (h.run pins s σ I H F σs Qk noX J st .none q) fun u s' ⟨v, r, R, I', H', F', σs', d, rv, q'⟩ =>
    ⟨v, H', d.inv, rv, f v H' ⟨r, R, I', F', σs', d.evo, d.st, d.sr, d.nf rfl, d.nI, q'⟩⟩⟩
def liTn (K : PySem.W.Frag) (ar : Nat → Option V) (t : TTs) : TT := fun σ H Q => ∃ I F σs Qk, StR K ar I H σ σs F ∧ t σs Qk noX ∧ ∀ c I' H' F' σs', Evo I H (own F) I' H' (own F') → StR K ar I' H' σ σs' F' → Qk c σs' → Q c H'
theorem JT.ptn {X : Cx} {ar : Nat → Option V} {b : Bool} {e : Expr} {t : TTs} (h : JT X ar b e t) : PT X e (liTn X.K ar t) :=
  ⟨fun pins s σ H Q J ⟨I, F, σs, Qk, st, q, f⟩ => thn (h.run pins s σ I H F σs Qk noX J st .none q) fun c s' ⟨I', H', F', σs', d, q'⟩ => ⟨H', d.inv, f c I' H' F' σs' d.evo d.st q'⟩⟩
theorem JE.of_pe {X : Cx} {ar : Nat → Option V} {e : Expr} {t : TEs} {t' : TE} (h : PE X e t') (i : ∀ σ I H F σs Qk ES Q, StR X.K ar I H σ σs F → TX X ar I H (own F) ES → t σs Qk ES → (∀ v H', OutE X.K ar I H F σ Qk v H' → Q v H') → t' σ H Q) : JE X ar false true e t := by
  refine ⟨fun pins s σ I H F σs Qk ES J st tx q => ?_⟩
  refine thn (h.run pins s σ H (OutE X.K ar I H F σ Qk) J (i σ I H F σs Qk ES _ st tx q fun _ _ z => z)) fun u s' ⟨v, H', J', rv, r, R, I', F', σs', ev, st', sr, nf, nI, q'⟩ => ?_
  exact ⟨v, r, R, I', H', F', σs', ⟨J', ev, st', sr, fun _ => nf, nI, fun z => Bool.noConfusion z⟩, rv, q'⟩
/-- a clause's tests -/
def JQ (X : Cx) (ar : Nat → Option V) (ifs : List Expr) (t : TTs) : Prop := PTs X ifs (liTn X.K ar t)
theorem PTs.mono {X : Cx} {es : List Expr} {t t' : TT} (h : PTs X es t) (i : ∀ σ H Q, t' σ H Q → t σ H Q) : PTs X es t' := ⟨fun pins s σ H Q J q => h.run pins s σ H Q J (i σ H Q q)⟩
def tYesS : TTs := fun σs Q _ => Q true σs
theorem jq_nil {X : Cx} {ar : Nat → Option V} : JQ X ar [] tYesS := PTs.mono pts_nil fun σ H Q ⟨I, F, σs, Qk, st, q, f⟩ => f true I H F σs (.refl _ _ _) st q
theorem jq_one {X : Cx} {ar : Nat → Option V} {b : Bool} {c : Expr} {t : TTs} (h : JT X ar b c t) : JQ X ar [c] t := pts_one h.ptn

/-! ### the block's own names -/
def wipeS (σs : SSt) : List Nat → SSt
  | [] => σs
  | v :: vs => sets (wipeS σs vs) v none
section
variable {K : PySem.W.Frag} {ar : Nat → Option V} {I H : Hp} {σ σ' : L2.St} {σs : SSt} {F : Nat → List Addr}
theorem wipeS_length : ∀ vs : List Nat, (wipeS σs vs).length = σs.length
  | [] => rfl
  | v :: vs => by
    unfold wipeS
    rw [sets_length, wipeS_length vs]
/-- a slot is forgotten, also below -/
theorem StR.forget2 (h : StR K ar I H σ σs F) (i : Nat) : StR K ar I H (σ.set i none) (sets σs i none) (drop1 F i) := by
  have g := h.forget i
  refine ⟨g.sub, fun j r q => ?_, g.non, g.dis, g.notI, fun j w r ha q => ?_, by rw [List.length_set]; exact g.len⟩
  · have hj : j ≠ i := fun e => by
      rw [e, gets_sets_none] at q
      cases q
    obtain ⟨v, e, s⟩ := g.rep j r q
    exact ⟨v, by rw [List.getElem?_set_ne (Ne.symm hj)]; exact e, s⟩
  · have hj : j ≠ i := fun e => by
      rw [e, gets_sets_none] at q
      cases q
    rw [List.getElem?_set_ne (Ne.symm hj)]
    exact g.par j w r ha q
theorem StR.wipe (h : StR K ar I H σ σs F) : ∀ vs : List Nat, ∃ F', StR K ar I H (L2.wipe σ vs) (wipeS σs vs) F' ∧ ∀ a, own F' a → own F a
  | [] => ⟨F, h, fun _ z => z⟩
  | v :: vs => by
    obtain ⟨F', st, k⟩ := StR.wipe h vs
    exact ⟨drop1 F' v, st.forget2 v, fun a z => k a (own_of_drop1 z)⟩
theorem wipeS_none : ∀ {vs : List Nat} {i : Nat}, i ∈ vs → gets (wipeS σs vs) i = none
  | v :: vs, i, h => by
    unfold wipeS
    by_cases e : i = v
    · rw [e, gets_sets_none]
    · rw [gets_sets_ne e]
      rcases List.mem_cons.mp h with z | z
      · exact absurd z e
      · exact wipeS_none z
/-- behind the block -/
theorem StR.unwipe {vs : List Nat} (h : StR K ar I H (L2.wipe σ vs) σs F) : StR K ar I H σ σs F :=
  ⟨h.sub, fun i r q => let ⟨v, e, s⟩ := h.rep i r q; ⟨v, (wipe_some e).1, s⟩, h.non, h.dis, h.notI, fun i v r a q => (h.par i v r a q).imp id fun e => (wipe_some e).1, by rw [h.len, wipe_length]⟩
theorem wipe_eq {σ σ' : L2.St} (hl : σ'.length = σ.length) : ∀ {vs : List Nat}, (∀ j, j ∉ vs → σ'[j]? = σ[j]?) → L2.wipe σ' vs = L2.wipe σ vs := by
  intro vs h
  refine List.ext_getElem? fun j => ?_
  by_cases hj : j ∈ vs
  · have nn : ∀ {τ : L2.St} {ws : List Nat}, j ∈ ws → (L2.wipe τ ws)[j]? = if j < τ.length then some none else none := by
      intro τ ws hw
      induction ws with
      | nil => cases hw
      | cons v ws ih =>
        unfold L2.wipe
        by_cases e : v = j
        · subst e
          by_cases hv : v < τ.length
          · rw [List.getElem?_set_self (by rw [wipe_length]; exact hv), if_pos hv]
          · rw [if_neg hv, List.getElem?_eq_none (by rw [List.length_set, wipe_length]; omega)]
        · rw [List.getElem?_set_ne e]
          rcases List.mem_cons.mp hw with z | z
          · exact absurd z.symm e
          · exact ih z
    rw [nn hj, nn hj, hl]
  · rw [wipe_out hj, wipe_out hj]
    exact h j hj
theorem wipe_wipe {vs : List Nat} : L2.wipe (L2.wipe σ vs) vs = L2.wipe σ vs := wipe_eq (wipe_length σ vs) fun j hj => wipe_out hj
end

def lcT (g : TGt) (tt : TTs) (te : TEs) (vs : List Nat) : List PyData → List PyData → SSt → (List PyData → SSt → Prop) → Prop
  | [], acc, σs, K => K acc σs
  | d :: ds, acc, σs, K => nd (g d σs) fun σ1 => tt σ1 (fun b σ2 => ifb b (te σ2 (fun r σ3 => nd r.toD fun e => acc.length < sizeLine ∧ lcT g tt te vs ds (acc ++ [e]) (wipeS σ3 vs) K) noX) (lcT g tt te vs ds acc (wipeS σ2 vs) K)) noX
def sLc (ti : TIs) (g : TGt) (tt : TTs) (te : TEs) (vs : List Nat) : TEs := fun σs Q ES => ti σs (fun ds σ1 => lcT g tt te vs ds [] (wipeS σ1 vs) (fun acc σ2 => Q (.lst acc) σ2)) ES
section
variable {X : Cx} {ar : Nat → Option V} {ti : TIs} {g : TGt} {ts : List Nat} {tt : TTs} {te : TEs} {vs : List Nat}
/-- the state within the block: the new list at D -/
structure InL (K : PySem.W.Frag) (ar : Nat → Option V) (I0 H0 : Hp) (o0 : Addr → Prop) (Iw : Hp) (D : Addr) (σw : L2.St) (acc : List PyData) (σs : SSt) (H : Hp) : Prop where
  ex : ∃ I F ws, Evo I0 H0 o0 I H (fun a => a ∈ [D] ∨ own F a) ∧ Sub Iw I ∧ StR K ar I H σw σs F ∧ H D = some (.lst ws) ∧ PRs K I ws acc ∧ I D = none ∧ ¬ own F D
theorem lc_imp {σ : L2.St} {I H : Hp} {F : Nat → List Addr} {σs : SSt} {Qk : KS} {ES : XS} {Q : VK} (hts : ∀ t ∈ ts, t ∈ vs) (st : StR X.K ar I H σ σs F) (tx : TX X ar I H (own F) ES) (q : sLc ti g tt te vs σs Qk ES)
    (hQ : ∀ v H', OutE X.K ar I H F σ Qk v H' → Q v H') : tLc (liI X ar ti) (liG X ar g ts) (liTn X.K ar tt) (liEn X.K ar te) vs σ H Q := by
  refine ⟨I, F, σs, _, ES, st, tx, q, fun I1 H1 F1 σ1 ds J ev st1 W q1 D hD => ?_⟩
  obtain ⟨F2, st2, k2⟩ := st1.wipe vs
  have hID : I1 D = none := by
    cases e : I1 D with
    | none => rfl
    | some x => rw [st1.sub _ _ e] at hD; cases hD
  have hFD : ¬ own F2 D := fun z => by
    obtain ⟨x, e⟩ := st2.there z
    rw [hD] at e
    cases e
  have up : ∀ a x, H1 a = some x → upd H1 D (.lst []) a = some x := fun a x e => by
    rw [upd_ne fun z => by subst z; rw [hD] at e; cases e]
    exact e
  refine ⟨fun i n H' => n = ds.length - i ∧ i ≤ ds.length ∧ ∃ acc σs', InL X.K ar I H (own F) I1 D (L2.wipe σ vs) acc σs' H' ∧ lcT g tt te vs (ds.drop i) acc σs' (fun acc σ2 => Qk (.lst acc) σ2), ⟨ds.length, by simp, Nat.zero_le _, [], wipeS σ1 vs, ⟨I1, F2, [], ⟨ev.up, fun a x e n => up a x (ev.fr a x e n), fun a z => ?_, ev.ni⟩, .refl _, ?_, upd_same, .nil, hID, hFD⟩, by simpa using q1⟩, ?_⟩
  · rcases z with z | z
    · have : a = D := by simpa using z
      subst this
      exact ev.back hD
    · exact ev.nw a (k2 a z)
  · exact st2.keep (fun a x e => up a x (st2.sub a x e)) (.refl _) (fun a _ x e => up a x e) fun a m => st2.ownI m
  rintro i n H' ⟨rfl, hi, acc, σs', ⟨I', F', ws, ev', sb', st', hD', pw, nI', nF'⟩, q'⟩
  by_cases hlt : i < ds.length
  · have eg : ds[i]? = some ds[i] := List.getElem?_eq_getElem hlt
    rw [List.drop_eq_getElem_cons hlt] at q'
    obtain ⟨σ2, e2, q2⟩ := nd_some q'
    obtain ⟨go, yl⟩ := W.go I' H' sb' st'.sub i _ eg
    refine .inr ⟨go, fun H'' => i + 1 ≤ ds.length ∧ ∃ acc σs', InL X.K ar I H (own F) I1 D (L2.wipe σ vs) acc σs' H'' ∧ lcT g tt te vs (ds.drop (i + 1)) acc σs' (fun acc σ2 => Qk (.lst acc) σ2), fun H'' z => ⟨ds.length - (i + 1), by omega, rfl, z.1, z.2⟩, fun x H3 y3 => ?_⟩
    obtain ⟨I3, u1, u2, u3, u4, px⟩ := yl x H3 y3
    have nI3 : I3 D = none := by
      cases e : I3 D with
      | none => rfl
      | some y =>
        rcases u4 D y e with e | e
        · rw [nI'] at e; cases e
        · rw [hD'] at e; cases e
    have ev3 : Evo I H (own F) I3 H3 (fun a => a ∈ [D] ∨ own F' a) := ⟨ev'.up.trans u1, fun a x e n => u3 a x (ev'.fr a x e n), fun a z => ev'.nw a z, fun a y e => by
      rcases u4 a y e with e | e
      · exact ev'.ni a y e
      · exact .inr (ev'.back e)⟩
    have st3 : StR X.K ar I3 H3 (L2.wipe σ vs) σs' F' := st'.keep u2 u1 (fun a _ x e => u3 a x e) fun a m => by
      cases e : I3 a with
      | none => rfl
      | some y =>
        rcases u4 a y e with e | e
        · rw [st'.ownI m] at e
          cases e
        · obtain ⟨z, e2⟩ := st'.there m
          rw [e] at e2
          cases e2
    have hD3 := u3 _ _ hD'
    refine ⟨I3, F', σs', _, σ2, st3, px, e2, fun σ4 F4 l4 k4 o4 st4 => ?_⟩
    have ew : L2.wipe σ4 vs = L2.wipe σ vs := by
      rw [wipe_eq l4 fun j hj => k4 j fun z => hj (hts j z), wipe_wipe]
    refine ⟨ew, ?_⟩
    -- a turn's end
    have fin : ∀ {I5 H5 : Hp} {F5 : Nat → List Addr} {σ5 : SSt} {ws5 : List V} {acc5 : List PyData}, Evo I H (own F) I5 H5 (fun a => a ∈ [D] ∨ own F5 a) → Sub I1 I5 → StR X.K ar I5 H5 σ4 σ5 F5 → H5 D = some (.lst ws5) → PRs X.K I5 ws5 acc5 → I5 D = none → ¬ own F5 D →
        InL X.K ar I H (own F) I1 D (L2.wipe σ vs) acc5 (wipeS σ5 vs) H5 := fun {I5 H5 F5 σ5 ws5 acc5} e s st h p n1 n2 => by
      obtain ⟨F6, st6, k6⟩ := st.wipe vs
      rw [ew] at st6
      exact ⟨I5, F6, ws5, ⟨e.up, e.fr, fun a z => e.nw a (z.imp id (k6 a)), e.ni⟩, s, st6, h, p, n1, fun z => n2 (k6 _ z)⟩
    have ev4 : Evo I H (own F) I3 H3 (fun a => a ∈ [D] ∨ own F4 a) := ev3.sameo fun a z => z.imp id (o4 a)
    have nF4 : ¬ own F4 D := fun z => nF' (o4 _ z)
    refine ⟨I3, F4, σ2, _, st4, q2, fun b I5 H5 F5 σ5 ev5 st5 q5 => ?_⟩
    have hD5 : H5 D = some (.lst ws) := ev5.fr _ _ hD3 nF4
    have nI5 : I5 D = none := by
      cases e : I5 D with
      | none => rfl
      | some y =>
        rcases ev5.ni D y e with e | e | e
        · rw [nI3] at e; cases e
        · exact absurd e nF4
        · rw [hD3] at e; cases e
    have nF5 : ¬ own F5 D := fun z => by
      rcases ev5.nw D z with e | e
      · exact nF4 e
      · rw [hD3] at e; cases e
    have ev6 : Evo I H (own F) I5 H5 (fun a => a ∈ [D] ∨ own F5 a) := ev4.trans ev5 (fun _ z => .inr z) fun c z => z.imp .inl id
    cases b with
    | false =>
      dsimp only
      rw [if_neg (by decide)]
      exact ⟨hlt, acc, wipeS σ5 vs, fin ev6 ((sb'.trans u1).trans ev5.up) st5 hD5 (pw.sub (u1.trans ev5.up)) nI5 nF5, q5⟩
    | true =>
      dsimp only
      rw [if_pos rfl]
      refine ⟨I5, F5, σ5, _, st5, q5, fun y H7 ⟨r, R, I7, F7, σ7, ev7, st7, sr7, nf7, nI7, q7⟩ => ?_⟩
      obtain ⟨e, er, hz, q8⟩ := nd_some q7
      have hD7 : H7 D = some (.lst ws) := ev7.fr _ _ hD5 nF5
      have nI7' : I7 D = none := by
        cases e : I7 D with
        | none => rfl
        | some y =>
          rcases ev7.ni D y e with e | e | e
          · rw [nI5] at e; cases e
          · exact absurd e nF5
          · rw [hD5] at e; cases e
      have nFR : ¬ (D ∈ R ∨ own F7 D) := fun z => by
        rcases ev7.nw D z with e | e
        · exact nF5 e
        · rw [hD5] at e; cases e
      have pr := sr7.freeze er nI7
      -- the list grows
      have up7 : ∀ a x, a ≠ D → H7 a = some x → upd H7 D (.lst (ws ++ [y])) a = some x := fun a x n e => by
        rw [upd_ne n]
        exact e
      have nfz : fz I7 H7 R D = none := by
        rw [fz_out fun z => nFR (.inl z)]
        exact nI7'
      have sub8 : Sub (fz I7 H7 R) (upd H7 D (.lst (ws ++ [y]))) := fun a x e => up7 a x (fun z => by rw [z, nfz] at e; cases e) (fz_sub st7.sub a x e)
      have st8 : StR X.K ar (fz I7 H7 R) (upd H7 D (.lst (ws ++ [y]))) σ4 σ7 F7 := st7.keep sub8 (sub_fz nI7) (fun a m x e => up7 a x (fun z => nFR (.inr (z ▸ m))) e) fun a m => by
        rw [fz_out fun z => nf7 a z m]
        exact st7.ownI m
      have ev8 : Evo I H (own F) (fz I7 H7 R) (upd H7 D (.lst (ws ++ [y]))) (fun a => a ∈ [D] ∨ own F7 a) := by
        have evA := ev6.trans ev7 (p1 := own F5) (fun _ z => .inr z) (o3 := fun a => a ∈ [D] ∨ (a ∈ R ∨ own F7 a)) fun c z => by
          rcases z with z | z
          · exact .inl (.inl z)
          · exact .inr z
        refine ⟨evA.up.trans (sub_fz nI7), fun a x e n => ?_, fun a z => evA.nw a (z.imp id .inr), fun a x e => ?_⟩
        · have hx := evA.fr a x e n
          refine up7 a x (fun z => ?_) hx
          subst z
          rcases ev'.nw a (.inl (by simp)) with z | z
          · exact n z
          · rw [e] at z; cases z
        · unfold fz at e
          split at e
          · rename_i m
            exact .inr (evA.nw a (.inr (.inl m)))
          · exact evA.ni a x e
      refine ⟨ws, hD7, by rw [pw.length]; exact hz, hlt, acc ++ [e], wipeS σ7 vs, fin ev8 ((((sb'.trans u1).trans ev5.up).trans ev7.up).trans (sub_fz nI7)) st8 upd_same ?_ nfz (fun z => nFR (.inr z)), q8⟩
      exact (pw.sub ((u1.trans ev5.up).trans (ev7.up.trans (sub_fz nI7)))).append (.cons pr .nil)
  · have ei : i = ds.length := by omega
    subst ei
    rw [List.drop_length] at q'
    have one : ∀ a ∈ [D], a = D := fun a m => by simpa using m
    exact .inl ⟨W.stop I' H' sb' st'.sub _ (Nat.le_refl _), hQ _ _ ⟨.lst acc, [D], I', F', σs', ev', st'.unwipe, .lst hD' pw, fun a m z => nF' (by rw [← one a m]; exact z), fun a m => by rw [one a m]; exact nI', q'⟩⟩
variable {elt tg iter : Expr} {ifs : List Expr} {scope : Scope} {ow : List (Str × Nat)} {b : Bool} {pos : Pos}
abbrev BlkCx (X : Cx) (s : Shared) (H : Hp) (scope : Scope) (C : Addr) (cl : List (Str × Addr)) (fp : List Addr) : Cx := X.blk s H scope (compEnvC scope cl C X.env) fp
theorem je_lc (hc : X.calm = true) (hN : X.N.Nodup) (hi : JI X ar tg iter ti) (ok : BlkOk X.N X.env.scope scope ow) (hts : ∀ t ∈ ts, t ∈ ow.map (·.2))
    (hg : ∀ (s : Shared) (H : Hp) (C : Addr) (cl : List (Str × Addr)) (fp : List Addr), JG (BlkCx X s H scope C cl fp) ar tg g ts) (ht : ∀ (s : Shared) (H : Hp) (C : Addr) (cl : List (Str × Addr)) (fp : List Addr), JQ (BlkCx X s H scope C cl fp) ar ifs tt)
    (he : ∀ (s : Shared) (H : Hp) (C : Addr) (cl : List (Str × Addr)) (fp : List Addr), JE (BlkCx X s H scope C cl fp) ar b true elt te) (hs : ∀ x, foldedSetIterable iter X.env x = pure x := by intro _; rfl) :
    JE X ar false true (.ListComp elt [⟨tg, iter, ifs, 0⟩] scope pos) (sLc ti g tt te (ow.map (·.2))) :=
  JE.of_pe (pe_lc (g := liG X ar g ts) (tt := liTn X.K ar tt) hc hN hi ok (fun s H C cl fp => hg s H C cl fp) (fun s H C cl fp => ht s H C cl fp) (fun s H C cl fp => (he s H C cl fp).pen) hs) fun σ I H F σs Qk ES Q st tx q hQ => lc_imp hts st tx q hQ
theorem js_setLc {i : Nat} {y : Str} {py : Pos} {spos : Pos} (hc : X.calm = true) (hp : ar i = none) (hN : X.N.Nodup) (hy : X.N[i]? = some y) (hyl : X.env.scope.names.lookup y = some .local)
    (hsw : swapsWith (.ListComp elt [⟨tg, iter, ifs, 0⟩] scope pos) (some (.Name y py)) spos.line X.env = pure true) (hi : JI X ar tg iter ti) (ok : BlkOk X.N X.env.scope scope ow) (hts : ∀ t ∈ ts, t ∈ ow.map (·.2))
    (hg : ∀ (s : Shared) (H : Hp) (C : Addr) (cl : List (Str × Addr)) (fp : List Addr), JG (BlkCx X s H scope C cl fp) ar tg g ts) (ht : ∀ (s : Shared) (H : Hp) (C : Addr) (cl : List (Str × Addr)) (fp : List Addr), JQ (BlkCx X s H scope C cl fp) ar ifs tt)
    (he : ∀ (s : Shared) (H : Hp) (C : Addr) (cl : List (Str × Addr)) (fp : List Addr), JE (BlkCx X s H scope C cl fp) ar b true elt te) (hs : ∀ x, foldedSetIterable iter X.env x = pure x := by intro _; rfl) :
    JS X ar (.Assign [.Name y py] (.ListComp elt [⟨tg, iter, ifs, 0⟩] scope pos) spos) (sSet i (sLc ti g tt te (ow.map (·.2)))) := by
  refine ⟨fun pins s σ H D J ⟨I, F, σs, Ds, ES, st, tx, q, r⟩ => ?_⟩
  have hl : i < σs.length := by rw [st.len, J.len]; exact (List.getElem?_eq_some_iff.mp hy).1
  refine (ps_setLc (g := liG X ar g ts) (tt := liTn X.K ar tt) hc hN hy hyl hsw hi ok (fun s H C cl fp => hg s H C cl fp) (fun s H C cl fp => ht s H C cl fp) (fun s H C cl fp => (he s H C cl fp).pen) hs).run pins s σ H D J (lc_imp hts st tx q fun v H' ⟨r', R, I', F', σs', ev, st', sr, nf, nI, q'⟩ => ?_)
  exact r.nx _ _ ⟨I', put1 F' i R, _, ev.stored, st'.store (by rw [st'.len, ← st.len]; exact hl) sr nf nI (.inr hp), q'⟩
end
end SV
/-! SvM: a def by its body; the law's own head. -/
namespace SV
open PySem PySem.Spec PyProof.Rows L2

/-- the slots at a def's entry -/
def startS (n : Nat) (ss : List S) : SSt := ss.map some ++ List.replicate (n - ss.length) none
theorem startS_length {n : Nat} {ss : List S} (h : ss.length ≤ n) : (startS n ss).length = n := by
  unfold startS
  rw [List.length_append, List.length_map, List.length_replicate]
  omega
/-- what is still known of the arguments: those with own objects -/
def keepA : Option S → Option S
  | some (.val _) => none
  | x => x
def endS (n : Nat) (σs : SSt) : SSt := (σs.take n).map keepA
theorem gets_ix : ∀ {σs : SSt} {j : Nat}, gets σs j = (σs[j]?).bind id
  | [], _ => rfl
  | x :: r, 0 => by cases x <;> rfl
  | x :: r, j + 1 => by
    rw [List.getElem?_cons_succ]
    exact gets_ix (σs := r)
theorem gets_startS {n : Nat} {ss : List S} {j : Nat} : gets (startS n ss) j = ss[j]? := by
  rw [gets_ix]
  unfold startS
  by_cases h : j < ss.length
  · rw [List.getElem?_append_left (by simpa using h), List.getElem?_map]
    cases e : ss[j]? with
    | none => rfl
    | some y => rfl
  · rw [List.getElem?_append_right (by simpa using h), List.getElem?_replicate, List.getElem?_eq_none (by omega)]
    split <;> rfl
theorem gets_endS {n : Nat} {σs : SSt} {j : Nat} : gets (endS n σs) j = if j < n then keepA (gets σs j) else none := by
  rw [gets_ix, gets_ix]
  unfold endS
  rw [List.getElem?_map, List.getElem?_take]
  split
  · cases e : σs[j]? with
    | none => rfl
    | some y => cases y <;> rfl
  · rfl
theorem start_get {N : List Str} {vs : List V} {j : Nat} {v : V} (h : vs[j]? = some v) : (L2.start N vs)[j]? = some (some v) := by
  unfold L2.start
  have hj : j < vs.length := (List.getElem?_eq_some_iff.mp h).1
  rw [List.getElem?_append_left (by simpa using hj), List.getElem?_map, h]
  rfl
section
variable {K : PySem.W.Frag} {I H : Hp} {F : Nat → List Addr} {vs : List V} {ss : List S}
theorem StR.enter {N : List Str} (h : StR K (arV vs) I H (vs.map some) (ss.map some) F) (hl : ss.length ≤ N.length) : StR K (arV vs) I H (L2.start N vs) (startS N.length ss) F := by
  have e : ss.length = vs.length := by
    have := h.len
    simpa using this
  refine ⟨h.sub, fun j r q => ?_, fun j q => h.non j (by rw [gets_map, ← gets_startS (n := N.length)]; exact q), h.dis, h.notI, fun j v r a q => .inr (start_get a), ?_⟩
  · rw [gets_startS, ← gets_map] at q
    obtain ⟨v, e1, s⟩ := h.rep j r q
    refine ⟨v, start_get ?_, s⟩
    rw [List.getElem?_map] at e1
    cases e2 : vs[j]? with
    | none => rw [e2] at e1; cases e1
    | some w =>
      rw [e2] at e1
      cases e1
      rfl
  · rw [startS_length hl]
    unfold L2.start
    rw [List.length_append, List.length_map, List.length_replicate]
    omega
theorem StR.leave {σ : L2.St} {σs : SSt} (h : StR K (arV vs) I H σ σs F) (hl : vs.length ≤ σs.length) : ∃ F', StR K (arV vs) I H (vs.map some) (endS vs.length σs) F' ∧ ∀ a, own F' a → own F a := by
  refine ⟨fun j => if (gets (endS vs.length σs) j).isSome = true then F j else [], ⟨h.sub, fun j r q => ?_, fun j q => ?_, fun i j a m m' => ?_, fun j a m => ?_, fun j v r a q => .inr ?_, ?_⟩, fun a m => ?_⟩
  · try dsimp only
    rw [q, if_pos (show (some r).isSome = true from rfl)]
    rw [gets_endS] at q
    split at q
    · rename_i hj
      cases g : gets σs j with
      | none => rw [g] at q; cases q
      | some y =>
        rw [g] at q
        have nv : (∀ d, y ≠ .val d) ∧ y = r := by
          cases y with
          | val d => cases q
          | _ =>
            cases q
            exact ⟨fun d => by simp, rfl⟩
        obtain ⟨nv, rfl⟩ := nv
        obtain ⟨v, e, s⟩ := h.rep j y g
        have ev := List.getElem?_eq_getElem hj
        rcases h.par j _ y ev g with ⟨d, z⟩ | z
        · exact absurd z (nv d)
        · rw [z] at e
          cases e
          exact ⟨_, by rw [List.getElem?_map, ev]; rfl, s⟩
    · cases q
  · try dsimp only
    rw [q]
    rfl
  · try dsimp only at m m'
    split at m
    · split at m'
      · exact h.dis i j a m m'
      · cases m'
    · cases m
  · try dsimp only at m
    split at m
    · exact h.notI j a m
    · cases m
  · rw [List.getElem?_map, show vs[j]? = some v from a]
    rfl
  · unfold endS
    rw [List.length_map, List.length_take, List.length_map]
    omega
  · obtain ⟨j, m⟩ := m
    try dsimp only at m
    split at m
    · exact ⟨j, m⟩
    · cases m
end

section
variable {P : Program} {w : World} {K : PySem.W.Frag} {mg : Str → Option Value} {base : Heap} {k : Nat} {f : Addr} {fd : FuncData} {N ps : List Str} {sp : Sps}
/-- the context of a def's body -/
abbrev cxG (P : Program) (w : World) (K : PySem.W.Frag) (mg : Str → Option Value) (base : Heap) (N : List Str) (qual : Str) (sc : Scope) (f : Addr) (cdv : Value) (A : Around) (outer : List Env) (s : Shared) (H : Hp) (E : XK) : Cx :=
  cxOf (L2.CX P w) P w K mg base N qual sc f cdv A outer s H E
/-- a def by its body -/
theorem fun_okG {x qual : Str} {st : Stmt} (Fn : Fun K x qual st f fd) (Sc : FnScope N ps (defScope st)) (len : ∀ ss Q E, sp ss Q E → ss.length = ps.length)
    (hbody : ∀ (cdv : Value) (A : Around) (outer : List Env) (s : Shared) (H : Hp) (Ex : XK) (vs : List V) (ss : List SV.S) (Q : QS) (E : XQ), Room k (A.deeper (envOfC qual (defScope st) s.heap.objs.size f cdv)) → (A.deeper (envOfC qual (defScope st) s.heap.objs.size f cdv)).guards = some [] → vs.length = ps.length → sp ss Q E →
      ∃ t, JSs (cxG P w K mg base N qual (defScope st) f cdv A outer s H Ex) (arV vs) (defBody st) t ∧ t (startS N.length ss) { nx := fun σ => Q (.val .none) (endS ps.length σ), rt := fun r σ => Q r (endS ps.length σ) } (fun cls ed _ => E cls ed)) : FnG P w K mg base (k + 1) f fd ps sp := by
  obtain ⟨oc, od, kV, doc, pm, an, cdv, ct, osl, rfl, lk, hcd⟩ := Fn.ex
  refine ⟨len, fun A outer s H I F args us vs ss Q E hr hgd e0 hbt rv st0 hsp => ?_⟩
  have lss := len _ _ _ hsp
  have lvs : vs.length = ps.length := by
    have := st0.len
    simp only [List.length_map] at this
    omega
  have KH : K.In s.heap := e0.mod.kin.keeps fun b o e => (e0.bs b o e).1
  have nl : s.heap.NoLimit := e0.mod.nolimit.keeps fun b o e => (e0.bs b o e).1
  have lN : ps.length ≤ N.length := by
    have := congrArg List.length Sc.pre
    rw [List.length_take] at this
    omega
  have kinds : ∀ y ∈ ps.zip us, (defScope st).names.lookup y.1 = some .local ∨ ((defScope st).names.lookup y.1 = some .cell ∧ ((cellsFrom (s.heap.objs.size + 1) (defScope st).names []).lookup y.1).isSome = true) := by
    rintro ⟨n, v⟩ hy
    exact (Sc.par n (List.of_mem_zip hy).1).imp id fun q => ⟨q, PySem.W.cellsFrom_some _ _ _ (.inl q)⟩
  refine codeAny_call_function hr.depth (KH _ _ lk) rfl Sc.co Sc.gen rfl (PySem.W.codeRec_of KH hcd) (hbt _ _ _ _ (wpAny_newFunctionEnv_cells Sc.kind kinds fun env he s1 x => ?_))
  subst he
  refine ⟨nl.keeps x.toInCall.keep, codeAny_func ?_⟩
  obtain ⟨t, ht, hq⟩ := hbody cdv A outer s H (EQ K I H F E) vs ss Q E (hr.deeper _) hgd lvs hsp
  have J := inv_start (CX := L2.CX P w) (E := EQ K I H F E) Sc hr.hd e0 lvs rv x
  have tx : TX (cxG P w K mg base N qual (defScope st) f cdv A outer s H (EQ K I H F E)) (arV vs) I H (own F) (fun cls ed _ => E cls ed) :=
    ⟨_, takes_of rfl rfl rfl rfl, fun cls d σ' I' H' F' σs' ed ev st' hed q => ⟨I', ed, ev.sameo fun _ z => z.elim, st'.sub, hed, q⟩⟩
  have st1 := st0.enter (N := N) (by omega)
  refine wpAny_mono (ht.run [] s1 (L2.start N vs) H _ J ⟨I, F, startS N.length ss, _, _, st1, tx, hq, Rch.self _⟩) (fun fl s' hs => ?_) fun e s' hs => hs
  have out : ∀ {σ' : L2.St} {H' : Hp} {v : V} {u : Value} {r : S} {R : List Addr} {I' : Hp} {F' : Nat → List Addr} {σ'' : L2.St} {σs' : SSt}, Inv (cxG P w K mg base N qual (defScope st) f cdv A outer s H (EQ K I H F E)) [] σ' H' s' → RelV v u → Evo I H (own F) I' H' (fun a => a ∈ R ∨ own F' a) → StR K (arV vs) I' H' σ'' σs' F' → σs'.length = N.length → SR K I' H' v r R →
      (∀ a ∈ R, ¬ own F' a) → (∀ a ∈ R, I' a = none) → Q r (endS ps.length σs') → CE outer P w H s (RQ K vs I H F Q) u s' := by
    intro σ' H' v u r R I' F' σ'' σs' J' rv' ev stt hlen sr nf nI q
    obtain ⟨F2, st2, k2⟩ := stt.leave (by rw [hlen]; omega)
    exact ⟨v, H', J'.os, J'.bare, J'.base, J'.hok, rv', r, R, I', F2, _, ev.sameo fun a z => z.imp id (k2 a), st2, sr, fun a m z => nf a m (k2 a z), nI, by rw [lvs]; exact q⟩
  cases fl with
  | ret u =>
    obtain ⟨v, σ', H', J', rv', r, R, I', σ'', F', σs', hn, ev, stt, sr, nf, nI, q⟩ := hs
    exact out J' rv' ev stt (by rw [stt.len]; exact hn) sr nf nI q
  | next =>
    obtain ⟨σ', H', J', I', F', σs', ev, stt, q⟩ := hs
    exact out (v := .non) (R := []) J' rfl (ev.sameo fun a z => z.elim (fun m => absurd m (by simp)) id) stt (by rw [stt.len]; exact J'.len) (.val .non) (fun a m => absurd m (by simp)) (fun a m => absurd m (by simp)) q
  | brk =>
    obtain ⟨σ', H', J', I', F', σs', ev, stt, q⟩ := hs
    exact q.elim
  | cont =>
    obtain ⟨σ', H', J', I', F', σs', ev, stt, q⟩ := hs
    exact q.elim
end

/-! ### the law's own head -/
def lawQ : QS := fun r _ => r = .val (.bool true)
def lawE : XQ := fun _ _ => False
section
variable {P : Program} {w : World} {K : PySem.W.Frag} {mg mb : Str → Option Value} {k : Nat} {fa a : Addr} {fd : FuncData} {x : Str} {sp : Sps} {s1 : Shared} {us : List Value} {ns : List Int}
/-- the script's own object, as it lies there -/
abbrev scrObj (us : List Value) : Obj := { cls := .type "list", data := .seq us.toArray }
/-- from a heap in which the script alone may be tracked -/
theorem law_from {H : Hp} (G : ∀ base : Heap, K.In base → base.Ns mainGlobals mg → FnG P w K mg base k fa fd [x] sp) (hx : ∀ (s : Shared) (u : Value), BindsTo s fd ⟨[u], []⟩ [(x, u)]) (hr : Room k callerA)
    (kin : K.In s1.heap) (nsg : s1.heap.Ns mainGlobals mg) (nsb : s1.heap.Ns builtinsNs mb) (bb : ∀ y : Str, y ≠ "__name__" → mb y = bootBuiltins y) (nol : s1.heap.NoLimit) (nog : s1.gens = #[])
    (at_a : s1.heap.get? a = some (scrObj us)) (hq : SqL K H a (ns.map V.int)) (ok : HOk P w H s1.heap) (only : ∀ b y, H b = some y → b = a ∧ ∃ xs, y = .frz (scrObj us) (.lst xs)) (noK : ∀ y, H a = some y → K.lookup a = none)
    (hsp : sp [.scr ns] lawQ lawE) : codeAny (model P w) callerA (.call (.ref fa) ⟨[.ref a], []⟩) (fun r s' => r = .ok (.ret (.bool true)) ∧ OldK s1.heap s'.heap ∧ s'.os = s1.os ∧ AllBare s'.gens) s1 := by
  -- what is no list stays in the hidden heap
  have free : ∀ b o, s1.heap.get? b = some o → o ≠ scrObj us → H b = none := by
    intro b o e ne
    cases e2 : H b with
    | none => rfl
    | some y =>
      obtain ⟨rfl, _⟩ := only b y e2
      rw [at_a] at e
      exact absurd (Option.some.inj e).symm ne
  have ns' : ∀ b (m : Str → Option Value), s1.heap.Ns b m → (hidT s1.heap H).Ns b m := by
    rintro b m ⟨o, es, ep, e, d, rest⟩
    refine ⟨o, es, ep, hidT_get e (free b o e fun z => ?_), d, rest⟩
    rw [z] at d
    cases d
  have kin' : K.In (hidT s1.heap H) := by
    intro b o e
    refine hidT_get (kin b o e) ?_
    cases e2 : H b with
    | none => rfl
    | some y =>
      have := noK y (by rw [← (only b y e2).1]; exact e2)
      rw [← (only b y e2).1, e] at this
      cases this
  have md : Mod K mg (hidT s1.heap H) := ⟨kin', ns' _ _ nsg, ⟨mb, ns' _ _ nsb, bb⟩, by
    obtain ⟨mc, h1, h2⟩ := nol
    exact ⟨mc, ns' _ _ h1, h2⟩⟩
  have env : Env0 P w K mg (hidT s1.heap H) callerA [] s1 H :=
    { frames := rfl, mod := md, bs := fun b o e => of_hidT e, bsz := Nat.le_of_eq (hidT_size _ _), funs := trivial, frf := fun b m => absurd m (by simp [frs]), hok := ok, bare := .of_eq nog }
  have st : StR K (arV [.ref a]) H H [some (.ref a)] [some (.scr ns)] (fun _ => []) :=
    { sub := .refl H
      rep := fun i r e => by
        cases i with
        | zero =>
          cases (show some (S.scr ns) = some r from e)
          exact ⟨.ref a, rfl, .scr hq⟩
        | succ i => cases i <;> cases e
      non := fun _ _ => rfl
      dis := fun i j b m => absurd m (by simp)
      notI := fun i b m => absurd m (by simp)
      par := fun i v r e _ => .inr (by
        cases i with
        | zero =>
          cases (show some (V.ref a) = some v from e)
          rfl
        | succ i => cases i <;> cases e)
      len := rfl }
  refine codeAny_mono ((G _ kin' (ns' _ _ nsg)).run callerA [] s1 H H (fun _ => []) ⟨[.ref a], []⟩ [.ref a] [.ref a] [.scr ns] lawQ lawE hr rfl env (hx s1 (.ref a)) (.cons rfl .nil) st hsp) fun r s' h => ?_
  match r, h with
  | .error e, h =>
    obtain ⟨_, _, _, _, _, _, _, _, _, _, _, _, _, _, _, _, _, z⟩ := (show L2.CX P w [] H s1 (EQ K H H (fun _ => []) lawE) e s' from h)
    exact z.elim
  | .ok .next, h => exact h.elim
  | .ok .brk, h => exact h.elim
  | .ok .cont, h => exact h.elim
  | .ok (.ret u), h =>
    obtain ⟨v, H', os, bare, un, ok', rv, r, R, I', F', ss', _, _, sr, _, _, q⟩ := h
    have q' : r = .val (.bool true) := q
    subst q'
    obtain ⟨_, pr⟩ := sr.val_inv
    cases pr
    cases rv
    refine ⟨rfl, OldK.of_keep fun b o e => ?_, os, bare⟩
    cases e2 : H b with
    | none => exact un.keep b o e e2 (by simp [frs]) (by simp)
    | some y =>
      obtain ⟨rfl, xs, rfl⟩ := only b y e2
      have := (ok' b _ (un.frzs b _ _ e2)).1
      rw [at_a] at e
      rw [← Option.some.inj e]
      exact this
theorem law_goG (G : ∀ base : Heap, K.In base → base.Ns mainGlobals mg → FnG P w K mg base k fa fd [x] sp) (hx : ∀ (s : Shared) (u : Value), BindsTo s fd ⟨[u], []⟩ [(x, u)]) (hr : Room k callerA)
    (kin : K.In s1.heap) (nsg : s1.heap.Ns mainGlobals mg) (nsb : s1.heap.Ns builtinsNs mb) (bb : ∀ y : Str, y ≠ "__name__" → mb y = bootBuiltins y) (nol : s1.heap.NoLimit) (nog : s1.gens = #[])
    (at_a : s1.heap.get? a = some (scrObj us)) (inTs : IntsAre us ns) (few : ns.length ≤ sizeLine) (hsp : sp [.scr ns] lawQ lawE) :
    codeAny (model P w) callerA (.call (.ref fa) ⟨[.ref a], []⟩) (fun r s' => r = .ok (.ret (.bool true)) ∧ OldK s1.heap s'.heap ∧ s'.os = s1.os ∧ AllBare s'.gens) s1 := by
  have rv := vals_ints inTs
  have ln := inTs.length
  cases e : K.lookup a with
  | none =>
    have hH : ∀ b y, (if b = a then some (HO.frz (scrObj us) (.lst (ns.map V.int))) else none) = some y → b = a ∧ y = .frz (scrObj us) (.lst (ns.map V.int)) := fun b y z => by
      split at z
      · rename_i h
        exact ⟨h, (Option.some.inj z).symm⟩
      · cases z
    refine law_from (H := fun b => if b = a then some (.frz (scrObj us) (.lst (ns.map V.int))) else none) G hx hr kin nsg nsb bb nol nog at_a (.inl (.inr ⟨scrObj us, if_pos rfl⟩)) (fun b y z => ?_) (fun b y z => ?_) (fun _ _ => e) hsp
    · obtain ⟨rfl, rfl⟩ := hH b y z
      exact ⟨at_a, by rw [List.length_map]; exact few, us, 0, rv, at_a⟩
    · obtain ⟨h1, h2⟩ := hH b y z
      exact ⟨h1, _, h2⟩
  | some o =>
    have eo := kin a o e
    rw [at_a] at eo
    cases eo
    exact law_from (H := fun _ => none) G hx hr kin nsg nsb bb nol nog at_a (.inr ⟨_, us.toArray, _, e, rfl, rfl, rfl, by rw [List.size_toArray, ln]; exact few, by simpa using rv⟩) (fun b y z => by cases z) (fun b y z => by cases z) (fun y z => by cases z) hsp
end
/-- what k_head leaves, from the law's promise -/
theorem walkG {l : PySem.W.OpenLaw} {n k : Nat} {pq : Program} {loose : List Str} {XP : (Str → Option Value) → Heap → Prop} {YP : World → Heap → Prop} {d : DefRec} {K : Params → PySem.W.Frag} {sp : Sps} {x : Str}
    (hn : l.most = some n) (hn2 : n ≤ sizeLine) (hdf : d.params.defaults = []) (hr : Room k callerA) (hY : ∀ (w : World) (h : Heap), YP w h → (K w.params).In h)
    (F : ∀ (w : World) (mg : Str → Option Value) (fa : Addr) (h : Heap), (K w.params).In h → h.Ns mainGlobals mg → mg d.name = some (.ref fa) →
      ∃ fd : FuncData, (∀ (s : Shared) (u : Value), BindsTo s fd ⟨[u], []⟩ [(x, u)]) ∧ ∀ base : Heap, (K w.params).In base → base.Ns mainGlobals mg → FnG l.prog w (K w.params) mg base k fa fd [x] sp)
    (hsp : ∀ ns : List Int, ns.length ≤ n → sp [.scr ns] lawQ lawE) : PySem.W.WalkO pq loose XP YP l.row.toRowW d [] (fun f vs => PySem.call f vs) := by
  refine Att.attach_call hn hdf fun w s0 s1 mg mb fa o pm cd doc a us ns G Y ho hd hcd hmg at_a inTs few nog => ?_
  have kin := hY w _ Y
  obtain ⟨fd, hx, hF⟩ := F w mg fa _ kin G.T.g hmg
  exact law_goG hF hx hr kin G.T.g G.T.b G.T.builtins G.T.nolimit nog at_a inTs (Nat.le_trans few hn2) (hsp ns few)
end SV
/-! SvN: loops by a word on what is left. -/
namespace SV
open PySem PySem.Spec PyProof.Rows L2

/-- a loop over data that stand for the items of xs -/
theorem for_map {α : Type} (f : α → PyData) {g : TGt} {tb : TSs} {D : Es} {ES : XS} (Iv : List α → SSt → Prop)
    (step : ∀ x xs σs (N : SSt → Prop), (∀ σ', Iv xs σ' → N σ') → Iv (x :: xs) σs → nd (g (f x) σs) fun σ1 => tb σ1 { D with nx := N, ct := N, bk := D.nx } ES) (fin : ∀ σs, Iv [] σs → D.nx σs) :
    ∀ (xs : List α) (σs : SSt), Iv xs σs → forT g tb (xs.map f) σs D ES
  | [], σs, h => fin σs h
  | x :: xs, σs, h => step x xs σs (fun σ' => forT g tb (xs.map f) σ' D ES) (fun σ' h' => for_map f Iv step fin xs σ' h') h
theorem for_data {g : TGt} {tb : TSs} {D : Es} {ES : XS} (Iv : List PyData → SSt → Prop)
    (step : ∀ x xs σs (N : SSt → Prop), (∀ σ', Iv xs σ' → N σ') → Iv (x :: xs) σs → nd (g x σs) fun σ1 => tb σ1 { D with nx := N, ct := N, bk := D.nx } ES) (fin : ∀ σs, Iv [] σs → D.nx σs) :
    ∀ (xs : List PyData) (σs : SSt), Iv xs σs → forT g tb xs σs D ES
  | [], σs, h => fin σs h
  | x :: xs, σs, h => step x xs σs (fun σ' => forT g tb xs σ' D ES) (fun σ' h' => for_data Iv step fin xs σ' h') h
/-- a comprehension -/
theorem lc_map {α : Type} (f : α → PyData) {g : TGt} {tt : TTs} {te : TEs} {vs : List Nat} {K : List PyData → SSt → Prop} (Iv : List α → List PyData → SSt → Prop)
    (step : ∀ x xs acc σs (N : List PyData → SSt → Prop), (∀ a σ', Iv xs a σ' → N a σ') → Iv (x :: xs) acc σs → nd (g (f x) σs) fun σ1 => tt σ1 (fun b σ2 => ifb b (te σ2 (fun r σ3 => nd r.toD fun e => acc.length < sizeLine ∧ N (acc ++ [e]) (wipeS σ3 vs)) noX) (N acc (wipeS σ2 vs))) noX)
    (fin : ∀ acc σs, Iv [] acc σs → K acc σs) : ∀ (xs : List α) (acc : List PyData) (σs : SSt), Iv xs acc σs → lcT g tt te vs (xs.map f) acc σs K
  | [], acc, σs, h => fin acc σs h
  | x :: xs, acc, σs, h => step x xs acc σs (fun a σ' => lcT g tt te vs (xs.map f) a σ' K) (fun a σ' h' => lc_map f Iv step fin xs a σ' h') h
theorem lc_data {g : TGt} {tt : TTs} {te : TEs} {vs : List Nat} {K : List PyData → SSt → Prop} (Iv : List PyData → List PyData → SSt → Prop)
    (step : ∀ x xs acc σs (N : List PyData → SSt → Prop), (∀ a σ', Iv xs a σ' → N a σ') → Iv (x :: xs) acc σs → nd (g x σs) fun σ1 => tt σ1 (fun b σ2 => ifb b (te σ2 (fun r σ3 => nd r.toD fun e => acc.length < sizeLine ∧ N (acc ++ [e]) (wipeS σ3 vs)) noX) (N acc (wipeS σ2 vs))) noX)
    (fin : ∀ acc σs, Iv [] acc σs → K acc σs) : ∀ (xs : List PyData) (acc : List PyData) (σs : SSt), Iv xs acc σs → lcT g tt te vs xs acc σs K
  | [], acc, σs, h => fin acc σs h
  | x :: xs, acc, σs, h => step x xs acc σs (fun a σ' => lcT g tt te vs xs a σ' K) (fun a σ' h' => lc_data Iv step fin xs a σ' h') h
theorem while_by2 {c : TTs} {tb : TSs} {D : Es} {ES : XS} (Iv : Nat → SSt → Prop)
    (step : ∀ n σs (N : SSt → Prop), (∀ m σ', m < n → Iv m σ' → N σ') → Iv n σs → c σs (fun b σ1 => ifb b (tb σ1 { D with nx := N, ct := N, bk := D.nx } ES) (D.nx σ1)) ES) : ∀ (k n : Nat) (σs : SSt), n < k → Iv n σs → whileT c tb k σs D ES
  | 0, n, σs, h, _ => absurd h (Nat.not_lt_zero n)
  | k + 1, n, σs, h, i => step n σs (fun σ' => whileT c tb k σ' D ES) (fun m σ' hm i' => while_by2 Iv step k m σ' (by omega) i') i
/-- how long a line may be -/
theorem size_big : (16000000 : Nat) ≤ sizeLine := by decide
theorem room1 {n : Nat} (h : n ≤ 16000000) : n ≤ sizeLine := Nat.le_trans h size_big
theorem room2 {n : Nat} (h : n < 16000000) : n < sizeLine := Nat.lt_of_lt_of_le h size_big

/-! ### data that stand for ints, strs -/
theorem eqv_int {i j : Int} : PyData.eqv (.int i) (.int j) = decide (i = j) := by
  rw [PyData.eqv]
  exact (Bool.beq_eq_decide_eq i j)
theorem eqv_str {x y : Str} : PyData.eqv (.str x) (.str y) = decide (x = y) := by
  rw [PyData.eqv]
  exact (Bool.beq_eq_decide_eq x y)
theorem dep_int {i : Int} : (PyData.int i).depth ≤ 64 := by
  rw [PyData.depth]
  decide
theorem dep_str {x : Str} : (PyData.str x).depth ≤ 64 := by
  rw [PyData.depth]
  decide
theorem dep_bool {b : Bool} : (PyData.bool b).depth ≤ 64 := by
  rw [PyData.depth]
  decide
theorem dep_none : (PyData.none).depth ≤ 64 := by
  rw [PyData.depth]
  decide
/-- two ints compared -/
theorem ifb_eqi {i j : Int} {A B : Prop} (h1 : i = j → A) (h2 : i ≠ j → B) : ifb (tru (.bool (PyData.eqv (.int i) (.int j)))) A B := by
  show ifb (PyData.eqv (.int i) (.int j)) A B
  rw [eqv_int]
  exact ifb_dec h1 h2
theorem ifb_eqs {i j : Str} {A B : Prop} (h1 : i = j → A) (h2 : i ≠ j → B) : ifb (tru (.bool (PyData.eqv (.str i) (.str j)))) A B := by
  show ifb (PyData.eqv (.str i) (.str j)) A B
  rw [eqv_str]
  exact ifb_dec h1 h2

/-! ### items by a rest -/
theorem atI_mod {α : Type} (l : List α) (h : 0 < l.length) (n : Int) : ∃ c, atI l (n % (l.length : Int)) = some c ∧ c ∈ l := by
  have h1 : 0 ≤ n % (l.length : Int) := Int.emod_nonneg n (by omega)
  have h2 : n % (l.length : Int) < l.length := Int.emod_lt_of_pos n (by omega)
  have e : n % (l.length : Int) = ((n % (l.length : Int)).toNat : Int) := by omega
  have hk : (n % (l.length : Int)).toNat < l.length := by omega
  generalize (n % (l.length : Int)).toNat = j at e hk
  exact ⟨l[j], by rw [e]; exact atI_nat (List.getElem?_eq_getElem hk), List.getElem_mem hk⟩
/-! ### shown data -/
theorem bulk_strs : ∀ ys : List Str, PyData.bulkAll (ys.map .str) = (ys.map (·.length)).sum + ys.length
  | [] => by simp [PyData.bulkAll]
  | y :: ys => by
    have ih := bulk_strs ys
    simp only [List.map_cons, PyData.bulkAll, PyData.bulk, List.sum_cons, List.length_cons, ih, Str.length]
    omega
theorem sm_strs : ∀ ys : List Str, smAll (ys.map .str) = true
  | [] => by simp [smAll]
  | y :: ys => by
    have ih := sm_strs ys
    simp [smAll, smI, ih]
theorem dep_strs : ∀ ys : List Str, PyData.depthAll (ys.map .str) ≤ 1
  | [] => by simp [PyData.depthAll]
  | y :: ys => by
    have ih := dep_strs ys
    simp only [List.map_cons, PyData.depthAll, PyData.depth]
    omega
theorem show_strs {ys : List Str} (h : (ys.map (·.length)).sum + ys.length ≤ 600000) : ReprS (.list (ys.map .str)) :=
  ⟨by rw [smI]; exact sm_strs ys, by rw [PyData.bulk, bulk_strs]; exact h, by
    have := dep_strs ys
    rw [PyData.depth]
    omega⟩
theorem show_none : ReprS .none := ⟨by rw [smI], by rw [PyData.bulk]; decide, by rw [PyData.depth]; decide⟩
theorem show_bool {b : Bool} : ReprS (.bool b) := ⟨by rw [smI], by rw [PyData.bulk]; decide, by rw [PyData.depth]; decide⟩
theorem show_int {i : Int} (h : i.natAbs < 10 ^ 18) : ReprS (.int i) := ⟨by rw [smI, decide_eq_true_eq]; exact h, by rw [PyData.bulk]; decide, by rw [PyData.depth]; decide⟩
theorem boolsOf_mapF {α : Type} (f : α → Bool) (xs : List α) : boolsOf (xs.map fun x => .bool (f x)) = some (xs.map f) := by
  have := boolsOf_map (xs.map f)
  rw [List.map_map] at this
  exact this

/-! ### comprehensions that change nothing -/
theorem sets_sets : ∀ {σ : SSt} {i : Nat} {a b : Option S}, sets (sets σ i a) i b = sets σ i b
  | [], _, _, _ => rfl
  | _ :: _, 0, _, _ => rfl
  | x :: r, n + 1, a, b => by
    show x :: sets (sets r n a) n b = x :: sets r n b
    rw [sets_sets]
theorem lc_pure {α : Type} (f e : α → PyData) {te : TEs} {v : Nat} {σ0 : SSt} {K : List PyData → SSt → Prop} (hv : v < σ0.length) (hn : sets σ0 v none = σ0) (xs : List α) (hx : xs.length ≤ 16000000)
    (step : ∀ x ∈ xs, ∀ Q : KS, Q (.val (e x)) (sets σ0 v (some (.val (f x)))) → te (sets σ0 v (some (.val (f x)))) Q noX) (fin : K (xs.map e) σ0) : lcT (gVar v) tYesS te [v] (xs.map f) [] σ0 K := by
  refine lc_map f (fun rem acc σ => ∃ done, xs = done ++ rem ∧ acc = done.map e ∧ σ = σ0) (fun x r acc σ N hN h => ?_) (fun acc σ h => ?_) xs [] σ0 ⟨[], rfl, rfl, rfl⟩
  · obtain ⟨done, e1, rfl, rfl⟩ := h
    have eg : gVar v (f x) σ = some (sets σ v (some (.val (f x)))) := by
      unfold gVar
      rw [if_pos hv]
    rw [eg]
    show te _ _ noX
    refine step x (by rw [e1]; simp) _ ?_
    have hl := congrArg List.length e1
    rw [List.length_append, List.length_cons] at hl
    refine ⟨room2 (by rw [List.length_map]; omega), hN _ _ ⟨done ++ [x], by rw [e1]; simp, by simp, ?_⟩⟩
    show sets (sets σ v (some (.val (f x)))) v none = σ
    rw [sets_sets, hn]
  · obtain ⟨done, e1, rfl, rfl⟩ := h
    rw [List.append_nil] at e1
    rw [← e1]
    exact fin
theorem forV_map {α : Type} (f : α → PyData) {i : Nat} {ds0 : List PyData} {g : TGt} {tb : TSs} {D : Es} {ES : XS} (Iv : List α → SSt → Prop) (keep : ∀ xs σs, Iv xs σs → gets σs i = some (.lst ds0))
    (step : ∀ x xs σs (N : SSt → Prop), (∀ σ', Iv xs σ' → N σ') → Iv (x :: xs) σs → nd (g (f x) σs) fun σ1 => tb σ1 { D with nx := N, ct := N, bk := D.nx } ES) (fin : ∀ σs, Iv [] σs → D.nx σs) :
    ∀ (xs : List α) (σs : SSt), Iv xs σs → forVT i ds0 g tb (xs.map f) σs D ES
  | [], σs, h => ⟨keep _ _ h, fin σs h⟩
  | x :: xs, σs, h => ⟨keep _ _ h, step x xs σs (fun σ' => forVT i ds0 g tb (xs.map f) σ' D ES) (fun σ' h' => forV_map f Iv keep step fin xs σ' h') h⟩
/-- repr(x) != repr(x) -/
theorem ifb_nes {a : Str} {A B : Prop} (h : B) : ifb (tru (.bool (!PyData.eqv (.str a) (.str a)))) A B := by
  show ifb (!PyData.eqv (.str a) (.str a)) A B
  rw [eqv_str, decide_eq_true rfl]
  exact h
theorem ifb_nei {i j : Int} {A B : Prop} (h1 : i ≠ j → A) (h2 : i = j → B) : ifb (tru (.bool (!PyData.eqv (.int i) (.int j)))) A B := by
  show ifb (!PyData.eqv (.int i) (.int j)) A B
  rw [eqv_int, ← decide_not]
  exact ifb_dec h1 fun h => h2 (Decidable.not_not.mp h)
theorem ifb_ne2 {i j : Str} {A B : Prop} (h1 : i ≠ j → A) (h2 : i = j → B) : ifb (tru (.bool (!PyData.eqv (.str i) (.str j)))) A B := by
  show ifb (!PyData.eqv (.str i) (.str j)) A B
  rw [eqv_str, ← decide_not]
  exact ifb_dec h1 fun h => h2 (Decidable.not_not.mp h)
end SV
/-! SvO: more operations on strs: split, times, replace. -/
namespace SV
open PySem PySem.Spec PyProof.Rows L2

/-! ### split -/
theorem spl_mem (S : List Nat) : ∀ (l : List Nat) (k : Nat) (acc : List Nat), ∀ p ∈ TL.spl S k acc l, (∀ c ∈ p, c ∈ acc ∨ c ∈ l) ∧ p.length ≤ acc.length + l.length
  | [], k, acc, p, hp => by
    rw [TL.spl_nil] at hp
    have : p = acc := by simpa using hp
    subst this
    exact ⟨fun c h => .inl h, by simp⟩
  | d :: r, 0, acc, p, hp => by
    by_cases h : TL.pre S (d :: r) = true
    · rw [TL.spl_hit h] at hp
      rcases List.mem_cons.mp hp with rfl | hp
      · exact ⟨fun c h => .inl h, by omega⟩
      · obtain ⟨h1, h2⟩ := spl_mem S r (S.length - 1) [] p hp
        refine ⟨fun c hc => .inr ?_, by simp at h2 ⊢; omega⟩
        rcases h1 c hc with z | z
        · cases z
        · exact List.mem_cons_of_mem _ z
    · rw [TL.spl_miss (by simpa using h)] at hp
      obtain ⟨h1, h2⟩ := spl_mem S r 0 (acc ++ [d]) p hp
      refine ⟨fun c hc => ?_, by simp at h2 ⊢; omega⟩
      rcases h1 c hc with z | z
      · rcases List.mem_append.mp z with z | z
        · exact .inl z
        · exact .inr (by simp at z; simp [z])
      · exact .inr (List.mem_cons_of_mem _ z)
  | d :: r, k + 1, acc, p, hp => by
    obtain ⟨h1, h2⟩ := spl_mem S r k acc p (show p ∈ TL.spl S k acc r from hp)
    exact ⟨fun c hc => (h1 c hc).imp id (List.mem_cons_of_mem _), by simp at h2 ⊢; omega⟩
theorem spl_len (S : List Nat) : ∀ (l : List Nat) (k : Nat) (acc : List Nat), (TL.spl S k acc l).length ≤ l.length + 1
  | [], k, acc => by rw [TL.spl_nil]; simp
  | d :: r, 0, acc => by
    by_cases h : TL.pre S (d :: r) = true
    · rw [TL.spl_hit h]
      have := spl_len S r (S.length - 1) []
      simp
      omega
    · rw [TL.spl_miss (by simpa using h)]
      have := spl_len S r 0 (acc ++ [d])
      simp
      omega
  | d :: r, k + 1, acc => by
    have := spl_len S r k acc
    show (TL.spl S k acc r).length ≤ _
    simp
    omega
theorem spl_sum (S : List Nat) : ∀ (l : List Nat) (k : Nat) (acc : List Nat), ((TL.spl S k acc l).map List.length).sum ≤ acc.length + l.length
  | [], k, acc => by rw [TL.spl_nil]; simp
  | d :: r, 0, acc => by
    by_cases h : TL.pre S (d :: r) = true
    · rw [TL.spl_hit h]
      have := spl_sum S r (S.length - 1) []
      simp at this ⊢
      omega
    · rw [TL.spl_miss (by simpa using h)]
      have := spl_sum S r 0 (acc ++ [d])
      simp at this ⊢
      omega
  | d :: r, k + 1, acc => by
    have := spl_sum S r k acc
    show ((TL.spl S k acc r).map List.length).sum ≤ _
    simp at this ⊢
    omega
/-- the parts together are no longer than the whole -/
theorem split_total {x y : Str} (hy : y.cps.toList ≠ []) (hk : y.cps.all (· < 256) = true) : ((Txt.split x y).map (·.length)).sum ≤ x.length ∧ (Txt.split x y).length ≤ x.length + 1 := by
  have e := TL.split_spl x y hy (TL.kind_ok hk)
  have h1 := spl_sum (TL.tl y) (TL.tl x) 0 []
  have h2 := spl_len (TL.tl y) (TL.tl x) 0 []
  rw [← e] at h1 h2
  have hx : (TL.tl x).length = x.length := (TL.len_tl x).symm
  rw [List.map_map] at h1
  have e2 : (List.length ∘ TL.tl) = fun z : Str => z.length := by
    funext z
    exact (TL.len_tl z).symm
  rw [e2] at h1
  rw [List.length_map] at h2
  have h1' : ((Txt.split x y).map (·.length)).sum ≤ 0 + (TL.tl x).length := h1
  omega
theorem split_facts {x y : Str} (hy : y.cps.toList ≠ []) (hk : y.cps.all (· < 256) = true) : ∀ p ∈ Txt.split x y, (PyData.strOk x = true → PyData.strOk p = true) ∧ p.length ≤ x.length := by
  intro p hp
  have e := TL.split_spl x y hy (TL.kind_ok hk)
  have hm : p.cps.toList ∈ TL.spl y.cps.toList 0 [] x.cps.toList := by
    show TL.tl p ∈ TL.spl (TL.tl y) 0 [] (TL.tl x)
    rw [← e]
    exact List.mem_map_of_mem hp
  obtain ⟨h1, h2⟩ := spl_mem _ _ _ _ _ hm
  refine ⟨fun ok => ?_, ?_⟩
  · rw [strOk_iff] at ok ⊢
    intro c hc
    rcases h1 c hc with z | z
    · cases z
    · exact ok c z
  · simpa [Str.length] using h2
def rSplit : RMs
  | .str x, [.str y], Q => ((y.length == 0) = false ∧ y.cps.all (· < 256) = true ∧ x.length + 2 ≤ sizeLine) ∧ Q (.lst ((Txt.split x y).map .str))
  | _, _, _ => False
theorem PRs.ofStrs {K : PySem.W.Frag} {I : Hp} : ∀ {ys : List Str}, (∀ y ∈ ys, PyData.strOk y = true ∧ y.length ≤ sizeLine) → PRs K I (ys.map V.str) (ys.map .str)
  | [], _ => .nil
  | y :: ys, h => .cons (.str y (h y (by simp)).1 (h y (by simp)).2) (PRs.ofStrs fun z m => h z (List.mem_cons_of_mem _ m))
section
variable {X : Cx}
theorem m_split : MOp X "str.split" rSplit := by
  intro pins s σ H I x xs v us d ds Q J sb rx rv p pv q
  cases p with
  | str a ha za =>
    rcases ds with _ | ⟨d, _ | ⟨d2, dr⟩⟩
    · exact (show False from q).elim
    · obtain ⟨y, e, p2⟩ := pv.one
      subst e
      cases p2 with
      | str b hb zb =>
        obtain ⟨⟨h1, h2, h3⟩, q⟩ := q
        have hne : b.cps.toList ≠ [] := fun z => by
          have : b.length = 0 := by simp [Str.length, ← Array.length_toList, z]
          rw [this] at h1
          cases h1
        refine mt_split pins s σ H _ _ v us _ J rx rv ⟨a, b, rfl, rfl, h1, h3, fun l hl => .newLst sb hl (PRs.ofStrs fun t ht => ?_) q⟩
        have := split_facts hne h2 t ht
        exact ⟨this.1 ha, by omega⟩
      | _ => exact (show False from q).elim
    · cases d <;> exact (show False from q).elim
  | _ => exact (show False from q).elim

/-! ### str * int -/
theorem okL_flat : ∀ (n : Nat) (x : Array Nat) (acc : Array Nat), okL x.toList → okL acc.toList → okL ((List.replicate n x).foldl (· ++ ·) acc).toList
  | 0, x, acc, _, h => h
  | n + 1, x, acc, h, h2 => by
    rw [List.replicate_succ, List.foldl_cons]
    exact okL_flat n x _ h (by rw [Array.toList_append]; exact okL_append h2 h)
theorem len_flat : ∀ (n : Nat) (x : Array Nat) (acc : Array Nat), ((List.replicate n x).foldl (· ++ ·) acc).size = acc.size + n * x.size
  | 0, x, acc => by simp
  | n + 1, x, acc => by
    rw [List.replicate_succ, List.foldl_cons, len_flat n x, Array.size_append, Nat.succ_mul]
    omega
theorem mul_facts {x : Str} {k : Int} (ok : PyData.strOk x = true) (h0 : 0 ≤ k) : PyData.strOk (Txt.mul x k) = true ∧ (Txt.mul x k).length ≤ x.length + k.toNat * x.length := by
  unfold Txt.mul
  split
  · exact ⟨by decide +kernel, Nat.zero_le _⟩
  · split
    · exact ⟨ok, by omega⟩
    · refine ⟨?_, ?_⟩
      · rw [strOk_iff] at ok ⊢
        exact okL_flat _ _ _ ok (fun c m => absurd m (by simp))
      · show ((List.replicate k.toNat x.cps).foldl (· ++ ·) #[]).size ≤ _
        rw [len_flat]
        simp only [Str.length]
        simp
def rMulS : R2s
  | .str x, .int k, Q => (0 ≤ k ∧ k ≤ 1000 ∧ x.length ≤ 1000) ∧ Q (.val (.str (Txt.mul x k)))
  | _, _, _ => False
theorem o_mulS : Op2 X (binaryOp .Mult) rMulS := by
  intro pins s σ H I x y v u d e Q J sb rx ry px py q
  cases px with
  | str a ha za =>
    cases py with
    | int k =>
      obtain ⟨⟨h1, h2, h3⟩, q⟩ := q
      obtain ⟨t, rfl⟩ := rx
      obtain ⟨t', rfl⟩ := ry
      obtain ⟨f1, f2⟩ := mul_facts (k := k) ha h1
      have hk : k.toNat ≤ 1000 := by omega
      have hm : k.toNat * a.length ≤ 1000 * 1000 := Nat.mul_le_mul hk h3
      refine PySem.SB.mul ⟨?_, fun _ _ => ?_, fun _ _ => ?_⟩ fun t'' k' => ⟨.str _, H, J.tok k', ⟨t'', rfl⟩, .val sb (.str _ f1 (room1 (by omega))) q⟩
      · have a1 : ¬ k < -(2 ^ 63 : Int) := by omega
        have a2 : ¬ k ≥ 2 ^ 63 := by omega
        simp only [decide_eq_false a1, decide_eq_false a2]
        rfl
      · rename_i h5 h6
        have h7 : (1000 : Int) ≤ (2 ^ 63 - 1) / k := by
          have : 1000 * k ≤ 2 ^ 63 - 1 := by omega
          exact (Int.le_ediv_iff_mul_le (by omega)).mpr this
        omega
      · have hm2 : a.length * k.toNat ≤ 1000000 := by rw [Nat.mul_comm]; exact hm
        unfold PySem.Builtin.Str.tooLong sizeLine
        exact decide_eq_false (by
          have : (2 : Nat) ^ 24 = 16777216 := by decide
          omega)
    | _ => exact q.elim
  | _ => exact q.elim
end

/-! ### replace: its written arguments want a token that is not the first -/
structure JAT (X : Cx) (ar : Nat → Option V) (b : Bool) (es : List Expr) (t : TPs) : Prop where
  run : ∀ (pos : Pos) (pins : List (Addr × Obj)) (s : Shared) (σ : L2.St) (I H : Hp) (F : Nat → List Addr) (σs : SSt) (Q : List PyData → SSt → Prop) (ES : XS), 1 ≤ s.toks → Inv X pins σ H s → StR X.K ar I H σ σs F → TX X ar I H (own F) ES → t σs Q ES →
    wpAny (model X.prog X.w) X.A (spliced (backTo pos (starEach es X.env))) (APs X ar pins σ b I H F σs Q) X.xe s
structure JET (X : Cx) (ar : Nat → Option V) (b m : Bool) (e : Expr) (t : TEs) : Prop where
  run : ∀ (pins : List (Addr × Obj)) (s : Shared) (σ : L2.St) (I H : Hp) (F : Nat → List Addr) (σs : SSt) (Q : KS) (ES : XS), 1 ≤ s.toks → Inv X pins σ H s → StR X.K ar I H σ σs F → TX X ar I H (own F) ES → t σs Q ES →
    wpAny (model X.prog X.w) X.A (eval e X.env) (RP X ar pins σ b m I H F σs Q) X.xe s
section
variable {X : Cx} {ar : Nat → Option V} {a e : Expr} {es : List Expr} {b1 b2 m1 : Bool} {ta te : TEs} {tp : TPs} {j : Nat} {cp bp pos : Pos}
theorem JA.t (h : JA X ar b1 es tp) : JAT X ar b1 es tp := ⟨fun pos pins s σ I H F σs Q ES _ J st tx q => h.run pos pins s σ I H F σs Q ES J st tx q⟩
theorem jat_next {pins : List (Addr × Obj)} {s1 : Shared} {σ : L2.St} {I H : Hp} {F : Nat → List Addr} {σs : SSt} {Q : List PyData → SSt → Prop} {ES : XS} {v : Value} {pos : Pos} (hr : JAT X ar b2 es tp) (h0 : 1 ≤ s1.toks) (tx : TX X ar I H (own F) ES)
    (h : RP X ar pins σ b1 true I H F σs (fun r σ1 => nd r.toD fun d => tp σ1 (fun ds σ2 => Q (d :: ds) σ2) ES) v s1) :
    wpAny (model X.prog X.w) X.A (spliced (backTo pos (starEach es X.env))) (fun us s2 => APs X ar pins σ (b1 && b2) I H F σs Q (v :: us) s2) X.xe s1 := by
  obtain ⟨x, rx, R1, I1, H1, F1, σ1, h1, r1, q1⟩ := h
  obtain ⟨d, ex, q1⟩ := nd_some q1
  obtain ⟨hb, p⟩ := h1.freeze ex
  refine thn (hr.run pos pins s1 σ _ H1 F1 σ1 _ ES h0 hb.inv hb.st (tx.go hb.evo fun _ z => z) q1) fun us s2 ⟨vs, ds, I2, H2, F2, σ2, h2, rv, pv, q2⟩ => ?_
  exact ⟨x :: vs, d :: ds, I2, H2, F2, σ2, hb.then h2, .cons r1 rv, .cons (p.sub h2.evo.up) pv, q2⟩
theorem jat_cons (ha : JE X ar b1 true e te) (hr : JAT X ar b2 es tp) (hs : starEach (e :: es) X.env = (false, eval e X.env) :: starEach es X.env := by rfl) : JAT X ar (b1 && b2) (e :: es) (pCons te tp) := by
  refine ⟨fun pos pins s σ I H F σs Q ES h0 J st tx q => ?_⟩
  rw [hs]
  show wpAny _ _ (spliced ((false, eval e X.env) :: backTo pos (starEach es X.env))) _ _ s
  exact Calls.spliced_cons (wpAny_mono (PySem.wpAny_toks_of h0 (ha.run pins s σ I H F σs _ ES J st tx q)) (fun v s1 ⟨h1, z⟩ => jat_next hr h1 tx z) fun _ _ z => z.2)
theorem jat_spec (ha : JET X ar b1 true e te) (hr : JAT X ar b2 es tp) (hs : starEach (e :: es) X.env = (false, eval e X.env) :: starEach es X.env := by rfl) : JAT X ar (b1 && b2) (e :: es) (pCons te tp) := by
  refine ⟨fun pos pins s σ I H F σs Q ES h0 J st tx q => ?_⟩
  rw [hs]
  show wpAny _ _ (spliced ((false, eval e X.env) :: backTo pos (starEach es X.env))) _ _ s
  exact Calls.spliced_cons (wpAny_mono (PySem.wpAny_toks_of h0 (ha.run pins s σ I H F σs _ ES h0 J st tx q)) (fun v s1 ⟨h1, z⟩ => jat_next hr h1 tx z) fun _ _ z => z.2)
/-- behind a + 'text' a token is out -/
theorem ja_addK {y : Str} (ha : JE X ar b1 m1 a ta) (hr : JAT X ar b2 es tp) (o1 : PyData.strOk y = true := by decide +kernel) (o2 : y.length ≤ sizeLine := by decide +kernel)
    (hs : starEach (.BinOp a .Add (.Constant (.str y) j cp) bp :: es) X.env = (false, eval (.BinOp a .Add (.Constant (.str y) j cp) bp) X.env) :: starEach es X.env := by rfl) :
    JA X ar (b1 && b2) (.BinOp a .Add (.Constant (.str y) j cp) bp :: es) (pCons (s2 rAdd ta (sC (.str y))) tp) := by
  refine ⟨fun pos pins s σ I H F σs Q ES J st tx q => ?_⟩
  rw [hs]
  show wpAny _ _ (spliced ((false, eval (.BinOp a .Add (.Constant (.str y) j cp) bp) X.env) :: backTo pos (starEach es X.env))) _ _ s
  refine Calls.spliced_cons (wpAny_BinOp (thn (ha.run pins s σ I H F σs _ ES J st tx q) fun v s1 ⟨x, rx, R1, I1, H1, F1, σ1, h1, r1, q1⟩ => ?_))
  obtain ⟨dx, ex, q1⟩ := nd_some q1
  refine Calls.Constant_str ?_
  have ho := o_add (X := X) pins { s1 with toks := s1.toks + 1 } σ H1 I1 x (.str y) v (.str y s1.toks) dx (.str y) _ (h1.inv.tok _) h1.st.sub r1 ⟨_, rfl⟩ (h1.sr.ar h1.st.sub ex) (.str y o1 o2) q1
  exact wpAny_mono (PySem.wpAny_toks_of (n := 1) (by show 1 ≤ s1.toks + 1; omega) ho) (fun v s1 ⟨h2, z⟩ => jat_next hr h2 tx (RP.of_vp h1.base z)) fun _ _ z => z.2
def sRepl (y z : Str) (to : TEs) : TEs := fun σs Q ES => to σs (fun r σ1 => match r with
  | .val (.str x) => x.length + (x.length + 1) * z.length ≤ 16777216 ∧ Q (.val (.str (Txt.replace x y z))) σ1
  | _ => False) ES
theorem je_repl {y z : Str} {i k : Nat} {p q' apos : Pos} (ho : JE X ar b1 m1 a ta) (c : Nat) (hy : y = ⟨#[c]⟩) (hc : c < 256) (hz : PyData.strOk z = true) (hne : (y == z) = false)
    (hst : starEach [.Constant (.str y) i p, .Constant (.str z) k q'] X.env = [(false, eval (.Constant (.str y) i p) X.env), (false, eval (.Constant (.str z) k q') X.env)] := by rfl)
    (hbase : attributeBase a "replace" X.env (eval a X.env) = eval a X.env := by rfl) (hline : (apos.endLine == pos.line) = true := by rfl) :
    JET X ar b1 true (.Call (.Attribute a "replace" apos) [.Constant (.str y) i p, .Constant (.str z) k q'] [] pos) (sRepl y z ta) := by
  refine ⟨fun pins s σ I H F σs Q ES h0 J st tx q => ?_⟩
  refine PySem.Call_method2 hbase hst hline (wpAny_mono (PySem.wpAny_toks_of h0 (ho.run pins s σ I H F σs _ ES J st tx q)) (fun v s1 ⟨h1, x, rx, R1, I1, H1, F1, σ1, d, r1, q1⟩ => ?_) fun _ _ z => z.2)
  cases rx with
  | val dx =>
    obtain ⟨eR, pr⟩ := d.sr.val_inv
    cases pr with
    | str w hw zw =>
      obtain ⟨q2, q4⟩ := q1
      have q3 : PyData.strOk (Txt.replace w y z) = true := by
        rw [hy, StrLaws.replace_one, ← hy]
        refine strOk_join hz _ fun t ht => (split_facts (by rw [hy]; simp) ?_ t ht).1 hw
        rw [hy]
        simp [hc]
      obtain ⟨t, rfl⟩ := r1
      refine ⟨"str", _, PySem.F.plainAttrs_str, PySem.F.slot_str_replace, PySem.F.type_str_replace, typeIs_str _ _ _, (fun _ e => nomatch e), Calls.callWith_builtin rfl (Calls.evalArgs_plain (Calls.spliced_cons (Calls.Constant_str (Calls.spliced_cons (Calls.Constant_str (Calls.spliced_nil ?_))))))⟩
      refine PySem.SC.replace (by show s1.toks ≠ 0; omega) (by show s1.toks + 1 ≠ 0; omega) (by show s1.toks ≠ s1.toks + 1; omega) hne q2 fun t' kk => ?_
      refine RP.of_vp d.base ⟨.str _, H1, d.inv.tok kk, ⟨t', rfl⟩, .val d.st.sub (.str _ q3 ?_) q4⟩
      have := TK.replace_len w y z
      exact Nat.le_trans this (Nat.le_trans q2 (by decide))
    | _ => exact (show False from q1).elim
  | _ => exact (show False from q1).elim
end
end SV
/-! SvP: raise, try, isinstance of a caught exception. -/
namespace SV
open PySem PySem.Spec PyProof.Rows L2

/-- an own exception class without an own __init__, below ValueError -/
structure ExK (K : PySem.W.Frag) (mg : Str → Option Value) (x : Str) (C : Addr) : Prop where
  g : mg x = some (.ref C)
  q : PySem.W.excIn K C [.type "ValueError", .type "Exception", .type "BaseException", .type "object"] "ValueError.__new__" = true
  k : PySem.W.keepIn K (.ref C) = true
  s : PySem.W.subIn K (.ref C) (.type "BaseException") = some true
  t : PySem.W.typeIn K (.ref C) = some (.type "type")
section
variable {X : Cx} {ar : Nat → Option V} {x m : Str} {C : Addr} {j : Nat} {p p2 pos rpos : Pos}
theorem js_raise (hc : X.calm = true) (c : ExK X.K X.mg x C) (hg : Gl X x) (hdb : (x == ("__debug__" : Str)) = false := by decide) :
    JS X ar (.Raise (some (.Call (.Name x p) [.Constant (.str m) j p2] [] pos)) none rpos) (fun σs D ES => ES (.ref C) none σs) := by
  refine ⟨fun pins s σ H D J ⟨I, F, σs, Ds, ES, st, tx, q, r⟩ => ?_⟩
  obtain ⟨W, tk, f⟩ := tx
  exact (ps_raise hc tk (pmk_own PySem.F.excBase_ValueError c.q c.g c.k (raises_own c.s c.t) hg hdb)).run pins s σ H D J (f (.ref C) none σ I H F σs none (.refl _ _ _) st trivial q)
end

/-! ### try -/
def liSn (X : Cx) (ar : Nat → Option V) (t : TSs) : TS := fun D σ H => ∃ I F σs Ds, StR X.K ar I H σ σs F ∧ t σs Ds noX ∧ Rch X ar I H F Ds D
theorem JSs.sn {X : Cx} {ar : Nat → Option V} {st : List Stmt} {t : TSs} (h : JSs X ar st t) : PSs X st (liSn X ar t) := PSs.mono h fun D σ H ⟨I, F, σs, Ds, a, b, c⟩ => ⟨I, F, σs, Ds, noX, a, .none, b, c⟩
def liSw (X : Cx) (ar : Nat → Option V) (t : TSs) (W : WX) : TS := fun D σ H => ∃ I F σs Ds ES, StR X.K ar I H σ σs F ∧
  (∀ cls d σ' I' H' F' σs' ed, Evo I H (own F) I' H' (own F') → StR X.K ar I' H' σ' σs' F' → ED X.K I' H' d ed → ES cls ed σs' → W cls d σ' H') ∧ t σs Ds ES ∧ Rch X ar I H F Ds D
/-- try: .. except x: .. -/
def sTry (K : PySem.W.Frag) (c : Value) (t ts : TSs) : TSs := fun σs D ES => t σs D (fun cls ed σ1 => need (PySem.W.exmOne K cls c) fun b => ifb b (ts σ1 D noX) (ES cls ed σ1))
/-- try: .. except x as n: .. -/
def sTryAs (K : PySem.W.Frag) (c : Value) (Pc : Addr → Prop) (i : Nat) (t : TSs) (ts : Addr → Addr → TSs) : TSs := fun σs D ES => t σs D (fun cls ed σ1 => need (PySem.W.exmOne K cls c) fun b =>
  ifb b (∃ C, cls = .ref C ∧ ed = none ∧ Pc C ∧ ∀ a, ts C a (sets σ1 i (some (.adr a))) { D with nx := fun σ => D.nx (sets σ i none), bk := fun σ => D.bk (sets σ i none), ct := fun σ => D.ct (sets σ i none) } noX) (ES cls ed σ1))
section
variable {X : Cx} {ar : Nat → Option V} {x n : Str} {c : Value} {i : Nat} {body suite : List Stmt} {b0 : Stmt} {np pos pos' : Pos} {t ts : TSs}
theorem SR.adr_inv {K : PySem.W.Frag} {I H : Hp} {v : V} {a : Addr} {R : List Addr} (h : SR K I H v (.adr a) R) : v = .ref a := by
  generalize e0 : S.adr a = r0 at h
  cases h with
  | adr => cases e0; rfl
  | _ => cases e0
theorem sets_out : ∀ {σs : SSt} {i : Nat} {y : Option S}, σs.length ≤ i → sets σs i y = σs
  | [], _, _, _ => rfl
  | _ :: _, 0, _, h => absurd h (by simp)
  | x :: r, i + 1, y, h => by
    show x :: sets r i y = x :: r
    rw [sets_out (by simpa using h)]
theorem StR.storeA {K : PySem.W.Frag} {I H : Hp} {σ : L2.St} {σs : SSt} {F : Nat → List Addr} (h : StR K ar I H σ σs F) {i : Nat} (a : Addr) (hp : ar i = none) : ∃ F', StR K ar I H (σ.set i (some (.ref a))) (sets σs i (some (.adr a))) F' ∧ ∀ b, own F' b → own F b := by
  by_cases hl : i < σs.length
  · refine ⟨_, h.store hl (.adr a) (fun b m => absurd m (by simp)) (fun b m => absurd m (by simp)) (.inr hp), fun b m => ?_⟩
    rcases own_put1 m with m | m
    · cases m
    · exact m
  · rw [sets_out (by omega), List.set_eq_of_length_le (by rw [← h.len]; omega)]
    exact ⟨F, h, fun _ z => z⟩
theorem ED.nn {K : PySem.W.Frag} {I H : Hp} {d : Option Addr} (h : ED K I H d none) : d = none := by
  cases d with
  | none => rfl
  | some a => exact h.elim
theorem js_try (hs : X.stack = X.env :: X.outer) (hf : X.env.frame = some X.env.locals) (hc : Names X x c)
    (hb : ∀ (pn : List (Addr × Obj)) (xe : Value → Shared → Prop), PassesOwn (model X.prog X.w) X.A X.env xe → JSs (X.tr pn xe) ar body t)
    (hsu : ∀ (a : Addr) (oe : Obj) (pn : List (Addr × Obj)), JSs (X.suite a ((a, oe) :: pn)) ar (b0 :: suite) ts) :
    JS X ar (.Try body [.ExceptHandler (some (.Name x np)) none (b0 :: suite) pos'] [] [] pos) (sTry X.K c t ts) := by
  refine ⟨fun pins s σ H D J ⟨I, F, σs, Ds, ES, st, tx, q, r⟩ => ?_⟩
  obtain ⟨Wout, tk, f⟩ := tx
  refine (ps_try_only (tb := liSw X ar t) (ts := fun _ _ _ => liSn X ar ts) hs hf hc tk (fun W pn xe tkW hp => PSs.mono (hb pn xe hp) fun D σ H ⟨I, F, σs, Ds, ES, a, b, c, d⟩ => ⟨I, F, σs, Ds, ES, a, ⟨W, tkW, b⟩, c, ⟨d.nx, d.bk, d.ct, d.rt⟩⟩)
    (fun a oe cls d pn _ _ => PSs.mono (hsu a oe pn).sn fun D σ H ⟨I, F, σs, Ds, a, b, c⟩ => ⟨I, F, σs, Ds, a, b, ⟨c.nx, c.bk, c.ct, c.rt⟩⟩)).run pins s σ H D J
    ⟨I, F, σs, Ds, _, st, fun cls d σ' I' H' F' σs' ed ev st' hed q' => ?_, q, r⟩
  obtain ⟨b, eb, q'⟩ := need_some q'
  refine ⟨b, eb, fun e a na => ?_, fun e => ?_⟩
  · subst e
    exact ⟨I', F', σs', Ds, st', q', r.go ev⟩
  · subst e
    exact f cls d σ' I' H' F' σs' ed ev st' hed q'
theorem js_tryAs {Pc : Addr → Prop} {ts : Addr → Addr → TSs} (hs : X.stack = X.env :: X.outer) (hf : X.env.frame = some X.env.locals) (hN : X.N.Nodup) (hi : X.N[i]? = some n) (hln : X.env.kindOf n = some .local) (hp : ar i = none) (hc : Names X x c)
    (hb : ∀ (pn : List (Addr × Obj)) (xe : Value → Shared → Prop), PassesOwn (model X.prog X.w) X.A X.env xe → JSs (X.tr pn xe) ar body t)
    (hsu : ∀ (C a : Addr) (oe : Obj) (pn : List (Addr × Obj)), Pc C → Zc (.ref C) none oe → (∃ vs, oe.data = .fields vs) → JSs (X.suite a ((a, oe) :: pn)) ar (b0 :: suite) (ts C a)) :
    JS X ar (.Try body [.ExceptHandler (some (.Name x np)) (some n) (b0 :: suite) pos'] [] [] pos) (sTryAs X.K c Pc i t ts) := by
  refine ⟨fun pins s σ H D J ⟨I, F, σs, Ds, ES, st, tx, q, r⟩ => ?_⟩
  obtain ⟨Wout, tk, f⟩ := tx
  refine (ps_try_as (i := i) (tb := liSw X ar t) (ts := fun a cls d D σ H => ∃ C, cls = .ref C ∧ d = none ∧ Pc C ∧ liSn X ar (ts C a) D σ H) hs hf hN hi hln hc tk (fun W pn xe tkW hp => PSs.mono (hb pn xe hp) fun D σ H ⟨I, F, σs, Ds, ES, a, b, c, d⟩ => ⟨I, F, σs, Ds, ES, a, ⟨W, tkW, b⟩, c, ⟨d.nx, d.bk, d.ct, d.rt⟩⟩)
    (fun a oe cls d pn hz hfl => ⟨fun pins s σ H D J ⟨C, e1, e2, hP, I, F, σs, Ds, q1, q2, q3⟩ => ?_⟩)).run pins s σ H D J
    ⟨I, F, σs, Ds, _, st, fun cls d σ' I' H' F' σs' ed ev st' hed q' => ?_, q, r⟩
  · subst e1 e2
    exact (hsu C a oe pn hP hz hfl).sn.run pins s σ H D J ⟨I, F, σs, Ds, q1, q2, ⟨q3.nx, q3.bk, q3.ct, q3.rt⟩⟩
  obtain ⟨b, eb, q'⟩ := need_some q'
  refine ⟨b, eb, fun e a na => ?_, fun e => ?_⟩
  · subst e
    obtain ⟨C, e1, e2, hP, q2⟩ := (show ∃ C, cls = .ref C ∧ ed = none ∧ Pc C ∧ ∀ a, ts C a (sets σs' i (some (.adr a))) { Ds with nx := fun σ => Ds.nx (sets σ i none), bk := fun σ => Ds.bk (sets σ i none), ct := fun σ => Ds.ct (sets σ i none) } noX from q')
    subst e1 e2
    obtain ⟨F3, st2, k3⟩ := st'.storeA (i := i) a hp
    have ev2 : Evo I H (own F) I' H' (own F3) := ev.sameo k3
    refine ⟨C, rfl, hed.nn, hP, I', F3, _, { Ds with nx := fun σ => Ds.nx (sets σ i none), bk := fun σ => Ds.bk (sets σ i none), ct := fun σ => Ds.ct (sets σ i none) }, st2, q2 a, ⟨fun σ'' H'' ⟨I2, F2, σ2, e, s2, q2⟩ => ?_, fun σ'' H'' ⟨I2, F2, σ2, e, s2, q2⟩ => ?_, fun σ'' H'' ⟨I2, F2, σ2, e, s2, q2⟩ => ?_, fun v H'' z => r.rt _ _ (z.go ev2)⟩⟩
    · exact r.nx _ _ ⟨I2, drop1 F2 i, _, (ev2.trans e (fun _ z => z) (fun _ z => .inr z)).sameo fun b m => own_of_drop1 m, s2.forget2 i, q2⟩
    · exact r.bk _ _ ⟨I2, drop1 F2 i, _, (ev2.trans e (fun _ z => z) (fun _ z => .inr z)).sameo fun b m => own_of_drop1 m, s2.forget2 i, q2⟩
    · exact r.ct _ _ ⟨I2, drop1 F2 i, _, (ev2.trans e (fun _ z => z) (fun _ z => .inr z)).sameo fun b m => own_of_drop1 m, s2.forget2 i, q2⟩
  · subst e
    exact f cls d σ' I' H' F' σs' ed ev st' hed q'
/-- isinstance(e, c), e the exception of the suite -/
theorem je_isE {a C E : Addr} {oe : Obj} {pn : List (Addr × Obj)} {y : Str} {p p1 p2 cp : Pos} (i : Nat) (hC : ExcC X.K C) (hz : Zc (.ref C) none oe) (hfl : ∃ vs, oe.data = .fields vs) (hg : Gl X "isinstance") (hm : X.mg "isinstance" = none) (gy : Gl X y) (my : X.mg y = some (.ref E))
    (hN : X.N[i]? = some x := by rfl) (hv : Vis X.env.scope x := by first | exact Or.inl rfl | exact Or.inr (Or.inl rfl) | exact Or.inr (Or.inr rfl)) (hd : (x == ("__debug__" : Str)) = false := by decide) (hcd : (x == ("__classdict__" : Str)) = false := by decide) (hyd : (y == ("__debug__" : Str)) = false := by decide)
    (hs1 : starEach [.Name x p1, .Name y p2] X.env = (false, eval (.Name x p1) X.env) :: starEach [.Name y p2] X.env := by rfl) (hs2 : starEach [.Name y p2] X.env = [(false, eval (.Name y p2) X.env)] := by rfl) (hpl : (backTo cp (starEach [.Name y p2] X.env)).any (·.1) = false := by rfl) :
    JE (X.suite a ((a, oe) :: pn)) ar false true (.Call (.Name "isinstance" p) [.Name x p1, .Name y p2] [] cp) (fun σs Q ES => gets σs i = some (.adr a) ∧ need (PySem.W.kitOne X.K (.ref C) (.ref E)) fun b => Q (.val (.bool b)) σs) := by
  refine JE.of_pe (pe_callB (call_isE hC hz hfl) hg hm boot_isinstance (pa_cons (pe_var (i := i) hN hv hd hcd) (pa_cons (pe_glob (v := .ref E) gy my rfl hyd) pa_nil hs2) hs1) (by decide) (by decide) hs1 hpl) fun σ I H F σs Qk ES Q st tx ⟨g, q⟩ hQ => ?_
  obtain ⟨b, eb, q⟩ := need_some q
  obtain ⟨v, e1, sr⟩ := st.rep i _ g
  have ev : v = .ref a := sr.adr_inv
  subst ev
  refine ⟨.ref a, e1, .ref E, .ref E, b, rfl, (fun u hu => hu), eb, hQ _ _ ⟨.val (.bool b), [], I, F, σs, ⟨.refl I, fun _ _ h _ => h, fun c z => ?_, fun _ _ h => .inl h⟩, st, .val (.bl b), fun c m => absurd m (by simp), fun c m => absurd m (by simp), q⟩⟩
  rcases z with z | z
  · cases z
  · exact .inl z
end
end SV
/-! SvQ: is True; tuple * int of any size; dicts of the module. -/
namespace SV
open PySem PySem.Spec PyProof.Rows L2

/-! ### is, is not: None or a bool on the right -/
def rIsB : R2s
  | .bool a, .bool b, Q => Q (.val (.bool (a == b)))
  | _, _, _ => False
def rIsNotB : R2s
  | .bool a, .bool b, Q => Q (.val (.bool (a != b)))
  | _, _, _ => False
section
variable {X : Cx}
theorem o_isB : Op2 X (compareOp .Is) rIsB := by
  intro pins s σ H I x y v u d e Q J sb rx ry px py q
  cases px with
  | bl a =>
    cases py with
    | bl b =>
      cases rx
      cases ry
      exact PyProof.Rows.is_bool ⟨.bl _, H, J, rfl, .val sb (.bl _) q⟩
    | _ => exact q.elim
  | _ => exact q.elim
theorem o_isNotB : Op2 X (compareOp .IsNot) rIsNotB := by
  intro pins s σ H I x y v u d e Q J sb rx ry px py q
  cases px with
  | bl a =>
    cases py with
    | bl b =>
      cases rx
      cases ry
      exact PyProof.Rows.isnot_bool ⟨.bl _, H, J, rfl, .val sb (.bl _) q⟩
    | _ => exact q.elim
  | _ => exact q.elim
end
/-! ### tuple * 1, tuple * 0 -/
theorem tuple_mul1 (l : Addr) (items : Array Value) (n : Nat) (dd : Option Addr) (sl : Array (Option Value)) (x : Int) (u : Tok) (c0 : (decide (x < -(2 ^ 63)) || decide (x ≥ 2 ^ 63)) = false) (c1 : (items.isEmpty || x == 1) = true) :
    Meets (Builtin.«tuple.__mul__» ⟨[.ref l, .int x u], []⟩) (fun _ R s => s.heap.get? l = some { cls := .type "tuple", dict := dd, data := .seq items n, slots := sl } ∧ R (.ok (.ret (Value.ref l))) s) :=
  .of_wp fun prog w A R s h => by
    obtain ⟨hp, g, d, tk, os⟩ := s
    obtain ⟨hl, h⟩ := h
    have f1 := AutoSeq1.idx_int
    wp_walk using wpAny_loadPart' hl
    repeat (first
      | (refine wpAny_ite_false (decide_eq_false (by rw [c0]; exact Bool.false_ne_true)) ?_; wp_walk using wpAny_loadPart' hl)
      | (refine wpAny_ite_true (decide_eq_true c1) ?_; wp_walk using wpAny_loadPart' hl))
    exact ⟨_, rfl, h⟩
theorem tuple_mul0 (l : Addr) (items : Array Value) (n : Nat) (dd : Option Addr) (sl : Array (Option Value)) (x : Int) (u : Tok) (c0 : (decide (x < -(2 ^ 63)) || decide (x ≥ 2 ^ 63)) = false) (c1 : (items.isEmpty || x == 1) = false) (c2 : (decide (x ≤ 0) || items.isEmpty) = true) :
    Meets (Builtin.«tuple.__mul__» ⟨[.ref l, .int x u], []⟩) (fun _ R s => s.heap.get? l = some { cls := .type "tuple", dict := dd, data := .seq items n, slots := sl } ∧
      R (.ok (.ret (Value.ref s.heap.objs.size))) { s with heap := s.heap.push { cls := Value.type "tuple", data := Data.seq #[] }, toks := s.toks }) :=
  .of_wp fun prog w A R s h => by
    obtain ⟨hp, g, d, tk, os⟩ := s
    obtain ⟨hl, h⟩ := h
    have f1 := AutoSeq1.idx_int
    wp_walk using wpAny_loadPart' hl
    repeat (first
      | (refine wpAny_ite_false (decide_eq_false (by rw [c0]; exact Bool.false_ne_true)) ?_; wp_walk using wpAny_loadPart' hl)
      | (refine wpAny_ite_false (decide_eq_false (by rw [c1]; exact Bool.false_ne_true)) ?_; wp_walk using wpAny_loadPart' hl)
      | (refine wpAny_ite_true (decide_eq_true c2) ?_; wp_walk using wpAny_loadPart' hl))
    exact ⟨_, rfl, h⟩
def rMulT : R2s
  | .tuple xs, .int k, Q => (0 ≤ k ∧ k ≤ 1000 ∧ xs.length ≤ 1000) ∧ Q (.val (.tuple (List.replicate k.toNat xs).flatten))
  | _, _, _ => False
section
variable {X : Cx}
theorem o_mulT : Op2 X (binaryOp .Mult) rMulT := by
  intro pins s σ H I x y v u d e Q J sb rx ry px py q
  cases px with
  | @tup a0 vs0 xs h p =>
    cases py with
    | int k =>
      obtain ⟨⟨h1, h2, h3⟩, q⟩ := q
      have hT : SqT X.K H a0 vs0 := SqT.sub sb h
      by_cases hb : xs = [] ∨ k < 2
      · -- the same tuple, or the empty one
        cases rx
        obtain ⟨t, rfl⟩ := ry
        obtain ⟨its, r, ⟨⟨cls, dd, data, sl⟩, ho, hc, n, hd⟩, hs⟩ := J.tuple hT
        simp only at hc hd
        subst hc hd
        have le1 : its.length = xs.length := by rw [← r.length, p.length]
        have c0 : (decide (k < -(2 ^ 63)) || decide (k ≥ 2 ^ 63)) = false := by
          rw [decide_eq_false (show ¬ k < -(2 ^ 63) by omega), decide_eq_false (show ¬ k ≥ 2 ^ 63 by omega)]
          rfl
        have ty : s.TypeIs (.ref a0) "tuple" := ⟨_, ho, rfl⟩
        by_cases hb2 : (its.toArray.isEmpty || k == 1) = true
        · have ef : (List.replicate k.toNat xs).flatten = xs := by
            rcases Bool.or_eq_true _ _ ▸ hb2 with z | z
            · have : its = [] := by simpa using z
              rw [this] at le1
              have e0 : xs = [] := List.eq_nil_of_length_eq_zero le1.symm
              rw [e0]
              simp
            · have e1 : k = 1 := by simpa using z
              rw [e1]
              simp
          rw [ef] at q
          refine wpAny_binaryOp_repeat_ref (T := "tuple") (U := "int") (by decide) ty (fun s' => typeIs_int s' k t) noFill_tuple_mul PySem.F.fills_int_mul PySem.F.slot_int_rmul
            repeat_tuple PySem.F.slot_int_index.lookup ?_
          refine call_meets PySem.F.slot_int_rmul (typeIs_int s k t) PySem.F.entry_int_rmul (PySem.F.args_int_rmul_2 _ _) (int_rmul_tuple k t a0 its.toArray n dd sl) ⟨ho, rfl, ty, ?_⟩
          refine call_meets PySem.F.slot_tuple_mul ty PySem.F.entry_tuple_mul (PySem.F.args_tuple_mul_2 _ _) (tuple_mul1 a0 its.toArray n dd sl k t c0 hb2) ⟨ho, ?_⟩
          exact ⟨.ref a0, H, J, rfl, .val sb (.tup h p) q⟩
        · have hb3 : (its.toArray.isEmpty || k == 1) = false := by simpa using hb2
          have hne : its.toArray.isEmpty = false := by
            cases z : its.toArray.isEmpty with
            | false => rfl
            | true => rw [z] at hb3; cases hb3
          have hk1 : (k == 1) = false := by
            rw [hne] at hb3
            simpa using hb3
          have hxs : xs ≠ [] := fun z => by
            rw [z] at le1
            have : its = [] := List.eq_nil_of_length_eq_zero le1
            rw [this] at hne
            cases hne
          have hk0 : k = 0 := by
            have : k ≠ 1 := by simpa using hk1
            rcases hb with z | z
            · exact absurd z hxs
            · omega
          subst hk0
          have c2 : (decide ((0 : Int) ≤ 0) || its.toArray.isEmpty) = true := rfl
          refine wpAny_binaryOp_repeat_ref (T := "tuple") (U := "int") (by decide) ty (fun s' => typeIs_int s' 0 t) noFill_tuple_mul PySem.F.fills_int_mul PySem.F.slot_int_rmul
            repeat_tuple PySem.F.slot_int_index.lookup ?_
          refine call_meets PySem.F.slot_int_rmul (typeIs_int s 0 t) PySem.F.entry_int_rmul (PySem.F.args_int_rmul_2 _ _) (int_rmul_tuple 0 t a0 its.toArray n dd sl) ⟨ho, rfl, ty, ?_⟩
          refine call_meets PySem.F.slot_tuple_mul ty PySem.F.entry_tuple_mul (PySem.F.args_tuple_mul_2 _ _) (tuple_mul0 a0 its.toArray n dd sl 0 t c0 hb3 c2) ⟨ho, ?_⟩
          have hf : H s.heap.objs.size = none := J.hok.fresh (Nat.le_refl _)
          refine ⟨.ref s.heap.objs.size, upd H s.heap.objs.size (.tup []), J.laid (t' := s.toks) (fun b ob z => Heap.get?_push_of_some _ z) (Nat.le_refl _) ?_, rfl, .newTup sb hf .nil q⟩
          exact ⟨Nat.zero_le _, [], .nil, ⟨_, Heap.get?_push_size _ rfl, rfl, _, rfl⟩⟩
      · have hx : xs ≠ [] := fun z => hb (.inl z)
        have hk : 2 ≤ k := by omega
        exact op_repT pins s σ H _ _ v u _ J rx ry ⟨_, k, _, rfl, rfl, hT, p.ne_nil hx, hk, h2, by rw [p.length]; exact h3, fun a ha => .newTup sb ha (p.rep _) q⟩
    | _ => exact q.elim
  | _ => exact q.elim
end
end SV
/-! SvR: dicts of the module with str keys; list(range()), tuple(range()). -/
namespace SV
open PySem PySem.Spec PyProof.Rows L2

/-- a dict of the module: texts to ints -/
def tabI (T : List (Str × Int)) : List (PyData × PyData) := T.map fun p => (.str p.1, .int p.2)
def lookI (T : List (Str × Int)) (x : Str) : PyData := match T.lookup x with
  | some i => .int i
  | none => .none
def sDget (T : List (Str × Int)) (te : TEs) : TEs := fun σs Q ES => te σs (fun r σ1 => match r with
  | .val (.str y) => Q (.val (lookI T y)) σ1
  | _ => False) ES
theorem sameS (a b : Str) : PySem.Spec.same (.str a) (.str b) = (a == b) := by
  first
  | rfl
  | (unfold PySem.Spec.same; rfl)
  | simp [PySem.Spec.same]
theorem look_tab (x : Str) : ∀ T : List (Str × Int), PySem.Spec.lookup (.str x) (tabI T) = (T.lookup x).map PyData.int
  | [] => by
    show PySem.Spec.lookup (.str x) [] = none
    unfold PySem.Spec.lookup
    rfl
  | (k, v) :: T => by
    have ih := look_tab x T
    show PySem.Spec.lookup (.str x) ((.str k, .int v) :: tabI T) = _
    rw [List.lookup_cons]
    by_cases hk : x = k
    · subst hk
      have e1 : PySem.Spec.lookup (.str x) ((.str x, .int v) :: tabI T) = some (.int v) := by
        unfold PySem.Spec.lookup
        rw [sameS, if_pos (by simp)]
      rw [e1]
      simp
    · have e1 : PySem.Spec.lookup (.str x) ((.str k, .int v) :: tabI T) = PySem.Spec.lookup (.str x) (tabI T) := by
        conv => lhs; unfold PySem.Spec.lookup
        rw [sameS, if_neg (by simp; first | exact hk | exact fun e => hk e.symm)]
      have hb : (x == k) = false := by simpa using hk
      rw [e1, ih, hb]
section
variable {X : Cx} {ar : Nat → Option V} {e : Expr} {te : TEs} {b : Bool} {x : Str} {p apos cpos : Pos} {d : Addr} {T : List (Str × Int)}
theorem je_dget (hg : Gl X x) (hm : X.mg x = some (.ref d)) (tab : ∀ h : Heap, X.K.In h → StrTab X.prog X.w h d (tabI T)) (he : JE X ar b true e te) (hd : (x == ("__debug__" : Str)) = false := by decide)
    (hbase : attributeBase (.Name x p) "get" X.env (eval (.Name x p) X.env) = eval (.Name x p) X.env := by rfl)
    (hfew : ((backTo cpos (starEach [e] X.env)).all (fun x => !x.1) && (backToKw cpos (keywordEach [] X.env)).all (fun x => x.1.isSome)
      && decide ([e].length + ([] : List Keyword).length + (if ([] : List Keyword).isEmpty then 0 else 1) < 30)) = true := by rfl)
    (hline : (apos.endLine == cpos.line) = true := by rfl) (hs : starEach [e] X.env = (false, eval e X.env) :: starEach [] X.env := by rfl) : JE X ar b true (.Call (.Attribute (.Name x p) "get" apos) [e] [] cpos) (sDget T te) := by
  refine ⟨fun pins s σ I H F σs Q ES J st tx q => ?_⟩
  refine wpAny_Call_method_late hbase hfew hline rfl (ld_glob J hg hm ?_ hd)
  have tb := tab s.heap J.kIn
  obtain ⟨_, kvs, dd, _⟩ := id tb
  refine ⟨"dict", "dict.get", PySem.F.plainAttrs_dict, PySem.F.slot_dict_get, PySem.F.type_dict_get, dd.typeIs, ?_, ?_⟩
  · intro a ea
    obtain ⟨o, _, _, ho, hc, _⟩ := dd
    cases ea
    exact ⟨o, ho, hc.2.1⟩
  · rw [hs]
    refine Calls.callWith_builtin rfl (Calls.evalArgs_plain (Calls.spliced_cons (thn (he.run pins s σ I H F σs _ ES J st tx q) fun u s1 ⟨v, r, R, I1, H1, F1, σ1, d1, rv, q1⟩ => Calls.spliced_nil ?_)))
    cases r with
    | val y =>
      obtain ⟨eR, pr⟩ := d1.sr.val_inv
      cases pr with
      | str z hz zz =>
        obtain ⟨t, rfl⟩ := rv
        have tb1 := tab s1.heap d1.inv.kIn
        have q2 : Q (.val (lookI T z)) σ1 := q1
        unfold lookI at q2
        cases el : T.lookup z with
        | none =>
          rw [el] at q2
          exact PySem.W.kt_get1_noneS tb1 (by rw [look_tab, el]; rfl) (RP.of_vp d1.base ⟨.non, H1, d1.inv.tok _, rfl, .val d1.st.sub .non q2⟩)
        | some i =>
          rw [el] at q2
          refine PySem.W.kt_get1_thereS tb1 (by rw [look_tab, el]; rfl) fun w hw => ?_
          obtain ⟨t', rfl⟩ := hw.int_inv
          exact RP.of_vp d1.base ⟨.int i, H1, d1.inv.tok _, ⟨_, rfl⟩, .val d1.st.sub (.int i) q2⟩
      | _ => exact (show False from q1).elim
    | _ => exact (show False from q1).elim
end
end SV
/-! SvS: list comprehensions with two clauses. -/
namespace SV
open PySem PySem.Spec PyProof.Rows L2
def liIn (K : PySem.W.Frag) (ar : Nat → Option V) (ti : TIs) : TI := fun σ H R => ∃ I F σs Qk, StR K ar I H σ σs F ∧ ti σs Qk noX ∧
  ∀ I' H' F' σs' ds J, Evo I H (own F) I' H' (own F') → StR K ar I' H' σ σs' F' → Walk K I' J ds → Qk ds σs' → R J H'
theorem JI.pin {X : Cx} {ar : Nat → Option V} {tg iter : Expr} {ti : TIs} (h : JI X ar tg iter ti) : PI X tg iter (liIn X.K ar ti) := PI.mono h fun σ H R ⟨I, F, σs, Qk, st, q, f⟩ => ⟨I, F, σs, Qk, noX, st, .none, q, f⟩
abbrev BL := SSt → List PyData → (List PyData → SSt → Prop) → Prop
def lcTG (g : TGt) (B : BL) (vs : List Nat) : List PyData → List PyData → SSt → (List PyData → SSt → Prop) → Prop
  | [], acc, σs, K => K acc σs
  | d :: ds, acc, σs, K => nd (g d σs) fun σ1 => B σ1 acc fun acc' σ2 => lcTG g B vs ds acc' (wipeS σ2 vs) K
def bLc (tt : TTs) (te : TEs) : BL := fun σ1 acc K => tt σ1 (fun b σ2 => ifb b (te σ2 (fun r σ3 => nd r.toD fun e => acc.length < sizeLine ∧ K (acc ++ [e]) σ3) noX) (K acc σ2)) noX
def bLc2 (tt : TTs) (ti1 : TIs) (g1 : TGt) (tt1 : TTs) (te : TEs) (vs1 : List Nat) : BL := fun σ1 acc K => tt σ1 (fun b σ2 => ifb b (ti1 σ2 (fun ds1 σ3 => lcTG g1 (bLc tt1 te) vs1 ds1 acc (wipeS σ3 vs1) K) noX) (K acc σ2)) noX
def sLc2 (ti : TIs) (g : TGt) (tt : TTs) (ti1 : TIs) (g1 : TGt) (tt1 : TTs) (te : TEs) (vs vs1 : List Nat) : TEs := fun σs Q ES => ti σs (fun ds σ1 => lcTG g (bLc2 tt ti1 g1 tt1 te vs1) vs ds [] (wipeS σ1 vs) (fun acc σ2 => Q (.lst acc) σ2)) ES
section
variable {X : Cx} {ar : Nat → Option V} {I0 H0 : Hp} {o0 : Addr → Prop} {Iw : Hp} {D : Addr}
theorem InL.wipe {σ : L2.St} {acc : List PyData} {σs : SSt} {H : Hp} (h : InL X.K ar I0 H0 o0 Iw D σ acc σs H) (vs : List Nat) : InL X.K ar I0 H0 o0 Iw D (L2.wipe σ vs) acc (wipeS σs vs) H := by
  obtain ⟨I5, F5, ws5, e, s, st, h, p, n1, n2⟩ := h
  obtain ⟨F6, st6, k6⟩ := st.wipe vs
  exact ⟨I5, F6, ws5, ⟨e.up, e.fr, fun a z => e.nw a (z.imp id (k6 a)), e.ni⟩, s, st6, h, p, n1, fun z => n2 (k6 _ z)⟩
theorem InL.unwipe {σ : L2.St} {acc : List PyData} {σs : SSt} {H : Hp} {vs : List Nat} (h : InL X.K ar I0 H0 o0 Iw D (L2.wipe σ vs) acc σs H) : InL X.K ar I0 H0 o0 Iw D σ acc σs H := by
  obtain ⟨I5, F5, ws5, e, s, st, h, p, n1, n2⟩ := h
  exact ⟨I5, F5, ws5, e, s, st.unwipe, h, p, n1, n2⟩
/-- the parts of InL, with the freeze named -/
def InP (X : Cx) (ar : Nat → Option V) (I0 H0 : Hp) (o0 : Addr → Prop) (Iw : Hp) (D : Addr) (σw : L2.St) (acc : List PyData) (σs : SSt) (I H : Hp) (F : Nat → List Addr) (ws : List V) : Prop :=
  Evo I0 H0 o0 I H (fun a => a ∈ [D] ∨ own F a) ∧ Sub Iw I ∧ StR X.K ar I H σw σs F ∧ H D = some (.lst ws) ∧ PRs X.K I ws acc ∧ I D = none ∧ ¬ own F D
/-- a step within the block that leaves the new list alone -/
theorem InL.step {σ' : L2.St} {acc : List PyData} {σs' : SSt} {I H I' H' : Hp} {F F' : Nat → List Addr} {ws : List V} (ev : Evo I0 H0 o0 I H (fun a => a ∈ [D] ∨ own F a)) (sb : Sub Iw I) (hD : H D = some (.lst ws)) (pw : PRs X.K I ws acc) (nI : I D = none) (nF : ¬ own F D)
    (ev5 : Evo I H (own F) I' H' (own F')) (st5 : StR X.K ar I' H' σ' σs' F') : InP X ar I0 H0 o0 Iw D σ' acc σs' I' H' F' ws := by
  refine ⟨ev.trans ev5 (fun _ z => .inr z) fun c z => z.imp .inl id, sb.trans ev5.up, st5, ev5.fr _ _ hD nF, pw.sub ev5.up, ?_, fun z => ?_⟩
  · cases e : I' D with
    | none => rfl
    | some y =>
      rcases ev5.ni D y e with e | e | e
      · rw [nI] at e; cases e
      · exact absurd e nF
      · rw [hD] at e; cases e
  · rcases ev5.nw D z with e | e
    · exact nF e
    · rw [hD] at e; cases e
theorem loop_imp {g : TGt} {ts : List Nat} {B : BL} {vs : List Nat} {σ : L2.St} {I1 : Hp} {J : It} {ds : List PyData} {acc0 : List PyData} {σ0 : SSt} {H1 : Hp} {K : List PyData → SSt → Prop} {Bh : L2.St → Hp → (Hp → Prop) → Prop} {End : Hp → Prop}
    (hts : ∀ t ∈ ts, t ∈ vs) (W : Walk X.K I1 J ds) (h0 : InL X.K ar I0 H0 o0 I1 D (L2.wipe σ vs) acc0 σ0 H1) (q : lcTG g B vs ds acc0 σ0 K)
    (hb : ∀ σ2 H2 acc σs2 Kq Nx, InL X.K ar I0 H0 o0 I1 D σ2 acc σs2 H2 → B σs2 acc Kq → (∀ acc' σs' H', InL X.K ar I0 H0 o0 I1 D σ2 acc' σs' H' → Kq acc' σs' → Nx H') → Bh σ2 H2 Nx)
    (he : ∀ acc σs H, InL X.K ar I0 H0 o0 I1 D (L2.wipe σ vs) acc σs H → K acc σs → End H) :
    ∃ Wn : Nat → Nat → Hp → Prop, (∃ m, Wn 0 m H1) ∧ ∀ i m H, Wn i m H → (J.stop i H ∧ End H) ∨ (J.go i H ∧ ∃ Nx : Hp → Prop, (∀ H', Nx H' → ∃ m', m' < m ∧ Wn (i + 1) m' H') ∧ ∀ x H', J.yld i H x H' → liG X ar g ts x (L2.wipe σ vs) H' fun σ2 H2 => L2.wipe σ2 vs = L2.wipe σ vs ∧ Bh σ2 H2 Nx) := by
  refine ⟨fun i n H' => n = ds.length - i ∧ i ≤ ds.length ∧ ∃ acc σs', InL X.K ar I0 H0 o0 I1 D (L2.wipe σ vs) acc σs' H' ∧ lcTG g B vs (ds.drop i) acc σs' K, ⟨ds.length, by simp, Nat.zero_le _, acc0, σ0, h0, by simpa using q⟩, ?_⟩
  rintro i n H' ⟨rfl, hi, acc, σs', ⟨I', F', ws, ev', sb', st', hD', pw, nI', nF'⟩, q'⟩
  by_cases hlt : i < ds.length
  · have eg : ds[i]? = some ds[i] := List.getElem?_eq_getElem hlt
    rw [List.drop_eq_getElem_cons hlt] at q'
    obtain ⟨σ2, e2, q2⟩ := nd_some q'
    obtain ⟨go, yl⟩ := W.go I' H' sb' st'.sub i _ eg
    refine .inr ⟨go, fun H'' => i + 1 ≤ ds.length ∧ ∃ acc σs', InL X.K ar I0 H0 o0 I1 D (L2.wipe σ vs) acc σs' H'' ∧ lcTG g B vs (ds.drop (i + 1)) acc σs' K, fun H'' z => ⟨ds.length - (i + 1), by omega, rfl, z.1, z.2⟩, fun x H3 y3 => ?_⟩
    obtain ⟨I3, u1, u2, u3, u4, px⟩ := yl x H3 y3
    have nI3 : I3 D = none := by
      cases e : I3 D with
      | none => rfl
      | some y =>
        rcases u4 D y e with e | e
        · rw [nI'] at e; cases e
        · rw [hD'] at e; cases e
    have ev3 : Evo I0 H0 o0 I3 H3 (fun a => a ∈ [D] ∨ own F' a) := ⟨ev'.up.trans u1, fun a x e n => u3 a x (ev'.fr a x e n), fun a z => ev'.nw a z, fun a y e => by
      rcases u4 a y e with e | e
      · exact ev'.ni a y e
      · exact .inr (ev'.back e)⟩
    have st3 : StR X.K ar I3 H3 (L2.wipe σ vs) σs' F' := st'.keep u2 u1 (fun a _ x e => u3 a x e) fun a m => by
      cases e : I3 a with
      | none => rfl
      | some y =>
        rcases u4 a y e with e | e
        · rw [st'.ownI m] at e
          cases e
        · obtain ⟨z, e2⟩ := st'.there m
          rw [e] at e2
          cases e2
    have hD3 := u3 _ _ hD'
    refine ⟨I3, F', σs', _, σ2, st3, px, e2, fun σ4 F4 l4 k4 o4 st4 => ?_⟩
    have ew : L2.wipe σ4 vs = L2.wipe σ vs := by
      rw [wipe_eq l4 fun j hj => k4 j fun z => hj (hts j z), wipe_wipe]
    refine ⟨ew, ?_⟩
    have ev4 : Evo I0 H0 o0 I3 H3 (fun a => a ∈ [D] ∨ own F4 a) := ev3.sameo fun a z => z.imp id (o4 a)
    have nF4 : ¬ own F4 D := fun z => nF' (o4 _ z)
    refine hb σ4 H3 acc σ2 _ _ ⟨I3, F4, ws, ev4, sb'.trans u1, st4, hD3, pw.sub u1, nI3, nF4⟩ q2 fun acc' σs'' H'' ii kq => ⟨hlt, acc', wipeS σs'' vs, ?_, kq⟩
    have := ii.wipe vs
    rw [ew] at this
    exact this
  · have ei : i = ds.length := by omega
    subst ei
    rw [List.drop_length] at q'
    exact .inl ⟨W.stop I' H' sb' st'.sub _ (Nat.le_refl _), he _ _ _ ⟨I', F', ws, ev', sb', st', hD', pw, nI', nF'⟩ q'⟩
/-- the element's turn -/
theorem InL.elt {σ2 : L2.St} {H2 : Hp} {acc : List PyData} {σs2 : SSt} {Kq : List PyData → SSt → Prop} {Nx : Hp → Prop} {I1 : Hp} {tt : TTs} {te : TEs}
    (i : InL X.K ar I0 H0 o0 I1 D σ2 acc σs2 H2) (q : bLc tt te σs2 acc Kq) (hn : ∀ acc' σs' H', InL X.K ar I0 H0 o0 I1 D σ2 acc' σs' H' → Kq acc' σs' → Nx H') :
    liTn X.K ar tt σ2 H2 fun b H6 => if b = true then liEn X.K ar te σ2 H6 fun y H7 => ∃ acc, H7 D = some (.lst acc) ∧ acc.length < sizeLine ∧ Nx (upd H7 D (.lst (acc ++ [y]))) else Nx H6 := by
  obtain ⟨I3, F4, ws, ev4, sb', st4, hD3, pw, nI3, nF4⟩ := i
  refine ⟨I3, F4, σs2, _, st4, q, fun b I5 H5 F5 σ5 ev5 st5 q5 => ?_⟩
  obtain ⟨ev6, sb6, st6, hD5, pw5, nI5, nF5⟩ := InL.step (X := X) ev4 sb' hD3 pw nI3 nF4 ev5 st5
  cases b with
  | false =>
    rw [if_neg (by decide)]
    exact hn _ _ _ ⟨I5, F5, ws, ev6, sb6, st6, hD5, pw5, nI5, nF5⟩ q5
  | true =>
    rw [if_pos rfl]
    refine ⟨I5, F5, σ5, _, st6, q5, fun y H7 ⟨r, R, I7, F7, σ7, ev7, st7, sr7, nf7, nI7, q7⟩ => ?_⟩
    obtain ⟨e, er, hz, q8⟩ := nd_some q7
    have hD7 : H7 D = some (.lst ws) := ev7.fr _ _ hD5 nF5
    have nI7' : I7 D = none := by
      cases e : I7 D with
      | none => rfl
      | some y =>
        rcases ev7.ni D y e with e | e | e
        · rw [nI5] at e; cases e
        · exact absurd e nF5
        · rw [hD5] at e; cases e
    have nFR : ¬ (D ∈ R ∨ own F7 D) := fun z => by
      rcases ev7.nw D z with e | e
      · exact nF5 e
      · rw [hD5] at e; cases e
    have pr := sr7.freeze er nI7
    have up7 : ∀ a x, a ≠ D → H7 a = some x → upd H7 D (.lst (ws ++ [y])) a = some x := fun a x n e => by
      rw [upd_ne n]
      exact e
    have nfz : fz I7 H7 R D = none := by
      rw [fz_out fun z => nFR (.inl z)]
      exact nI7'
    have sub8 : Sub (fz I7 H7 R) (upd H7 D (.lst (ws ++ [y]))) := fun a x e => up7 a x (fun z => by rw [z, nfz] at e; cases e) (fz_sub st7.sub a x e)
    have st8 : StR X.K ar (fz I7 H7 R) (upd H7 D (.lst (ws ++ [y]))) σ2 σ7 F7 := st7.keep sub8 (sub_fz nI7) (fun a m x e => up7 a x (fun z => nFR (.inr (z ▸ m))) e) fun a m => by
      rw [fz_out fun z => nf7 a z m]
      exact st7.ownI m
    have ev8 : Evo I0 H0 o0 (fz I7 H7 R) (upd H7 D (.lst (ws ++ [y]))) (fun a => a ∈ [D] ∨ own F7 a) := by
      have evA := ev6.trans ev7 (p1 := own F5) (fun _ z => .inr z) (o3 := fun a => a ∈ [D] ∨ (a ∈ R ∨ own F7 a)) fun c z => by
        rcases z with z | z
        · exact .inl (.inl z)
        · exact .inr z
      refine ⟨evA.up.trans (sub_fz nI7), fun a x e n => ?_, fun a z => evA.nw a (z.imp id .inr), fun a x e => ?_⟩
      · have hx := evA.fr a x e n
        refine up7 a x (fun z => ?_) hx
        subst z
        rcases ev6.nw a (.inl (by simp)) with z | z
        · exact n z
        · rw [e] at z; cases z
      · unfold fz at e
        split at e
        · rename_i m
          exact .inr (evA.nw a (.inr (.inl m)))
        · exact evA.ni a x e
    refine ⟨ws, hD7, by rw [pw5.length]; exact hz, hn _ _ _ ⟨fz I7 H7 R, F7, _, ev8, (sb6.trans ev7.up).trans (sub_fz nI7), st8, upd_same, ?_, nfz, fun z => nFR (.inr z)⟩ q8⟩
    exact (pw5.sub (ev7.up.trans (sub_fz nI7))).append (.cons pr .nil)
theorem lc2_imp {ti ti1 : TIs} {g g1 : TGt} {ts ts1 : List Nat} {tt tt1 : TTs} {te : TEs} {vs vs1 : List Nat} {σ : L2.St} {I H : Hp} {F : Nat → List Addr} {σs : SSt} {Qk : KS} {ES : XS} {Q : VK} (hts : ∀ t ∈ ts, t ∈ vs) (hts1 : ∀ t ∈ ts1, t ∈ vs1) (st : StR X.K ar I H σ σs F) (tx : TX X ar I H (own F) ES) (q : sLc2 ti g tt ti1 g1 tt1 te vs vs1 σs Qk ES)
    (hQ : ∀ v H', OutE X.K ar I H F σ Qk v H' → Q v H') : tLc2 (liI X ar ti) (liG X ar g ts) (liTn X.K ar tt) (liIn X.K ar ti1) (liG X ar g1 ts1) (liTn X.K ar tt1) (liEn X.K ar te) vs vs1 σ H Q := by
  refine ⟨I, F, σs, _, ES, st, tx, q, fun I1 H1 F1 σ1 ds J ev st1 W q1 D hD => ?_⟩
  obtain ⟨F2, st2, k2⟩ := st1.wipe vs
  have hID : I1 D = none := by
    cases e : I1 D with
    | none => rfl
    | some x => rw [st1.sub _ _ e] at hD; cases hD
  have hFD : ¬ own F2 D := fun z => by
    obtain ⟨x, e⟩ := st2.there z
    rw [hD] at e
    cases e
  have up : ∀ a x, H1 a = some x → upd H1 D (.lst []) a = some x := fun a x e => by
    rw [upd_ne fun z => by subst z; rw [hD] at e; cases e]
    exact e
  have i0 : InL X.K ar I H (own F) I1 D (L2.wipe σ vs) [] (wipeS σ1 vs) (upd H1 D (.lst [])) := by
    refine ⟨I1, F2, [], ⟨ev.up, fun a x e n => up a x (ev.fr a x e n), fun a z => ?_, ev.ni⟩, .refl _, ?_, upd_same, .nil, hID, hFD⟩
    · rcases z with z | z
      · have : a = D := by simpa using z
        subst this
        exact ev.back hD
      · exact ev.nw a (k2 a z)
    · exact st2.keep (fun a x e => up a x (st2.sub a x e)) (.refl _) (fun a _ x e => up a x e) fun a m => st2.ownI m
  have one : ∀ a ∈ [D], a = D := fun a m => by simpa using m
  refine loop_imp hts W i0 q1 (fun σ2 H2 acc σs2 Kq Nx ii bq hn => ?_) fun acc σs' H' ⟨I', F', ws, ev', sb', st', hD', pw, nI', nF'⟩ q' =>
    hQ _ _ ⟨.lst acc, [D], I', F', σs', ev', st'.unwipe, .lst hD' pw, fun a m z => nF' (by rw [← one a m]; exact z), fun a m => by rw [one a m]; exact nI', q'⟩
  obtain ⟨I3, F4, ws, ev4, sb', st4, hD3, pw, nI3, nF4⟩ := ii
  refine ⟨I3, F4, σs2, _, st4, bq, fun b I5 H5 F5 σ5 ev5 st5 q5 => ?_⟩
  obtain ⟨ev6, sb6, st6, hD5, pw5, nI5, nF5⟩ := InL.step (X := X) ev4 sb' hD3 pw nI3 nF4 ev5 st5
  cases b with
  | false =>
    rw [if_neg (by decide)]
    exact hn _ _ _ ⟨I5, F5, ws, ev6, sb6, st6, hD5, pw5, nI5, nF5⟩ q5
  | true =>
    rw [if_pos rfl]
    refine ⟨I5, F5, σ5, _, st6, q5, fun I7 H7 F7 σ7 ds1 J1 ev7 st7 W1 q7 => ?_⟩
    · obtain ⟨ev8, sb8, st8, hD8, pw8, nI8, nF8⟩ := InL.step (X := X) ev6 sb6 hD5 pw5 nI5 nF5 ev7 st7
      have s18 : Sub I1 I7 := sb6.trans ev7.up
      have i7 : InL X.K ar I H (own F) I7 D (L2.wipe σ2 vs1) acc (wipeS σ7 vs1) H7 := InL.wipe ⟨I7, F7, ws, ev8, .refl _, st8, hD8, pw8, nI8, nF8⟩ vs1
      have wk : ∀ {σ acc σs H'}, InL X.K ar I H (own F) I7 D σ acc σs H' → InL X.K ar I H (own F) I1 D σ acc σs H' := fun {_ _ _ _} ⟨Ia, Fa, wa, ea, sa, ta, ha, pa, na, ma⟩ => ⟨Ia, Fa, wa, ea, s18.trans sa, ta, ha, pa, na, ma⟩
      exact loop_imp hts1 W1 i7 q7 (fun σ3 H3 acc3 σs3 Kq3 Nx3 i3 b3 n3 => i3.elt b3 n3) fun acc' σs' H' i' q' => hn _ _ _ (wk i').unwipe q'
end
section
variable {X : Cx} {ar : Nat → Option V} {ti ti1 : TIs} {g g1 : TGt} {ts ts1 : List Nat} {tt tt1 : TTs} {te : TEs} {vs1 : List Nat}
variable {elt tg iter tg1 iter1 : Expr} {ifs ifs1 : List Expr} {scope : Scope} {ow : List (Str × Nat)} {b : Bool} {pos : Pos}
theorem je_lc2 (hc : X.calm = true) (hN : X.N.Nodup) (hi : JI X ar tg iter ti) (ok : BlkOk X.N X.env.scope scope ow) (hts : ∀ t ∈ ts, t ∈ ow.map (·.2)) (hv : ∀ i ∈ vs1, i ∈ ow.map (·.2)) (hts1 : ∀ t ∈ ts1, t ∈ vs1)
    (hg : ∀ (s : Shared) (H : Hp) (C : Addr) (cl : List (Str × Addr)) (fp : List Addr), JG (BlkCx X s H scope C cl fp) ar tg g ts) (ht : ∀ (s : Shared) (H : Hp) (C : Addr) (cl : List (Str × Addr)) (fp : List Addr), JQ (BlkCx X s H scope C cl fp) ar ifs tt)
    (hi1 : ∀ (s : Shared) (H : Hp) (C : Addr) (cl : List (Str × Addr)) (fp : List Addr), JI (BlkCx X s H scope C cl fp) ar tg1 iter1 ti1)
    (hg1 : ∀ (s : Shared) (H : Hp) (C : Addr) (cl : List (Str × Addr)) (fp : List Addr), JG (BlkCx X s H scope C cl fp) ar tg1 g1 ts1) (ht1 : ∀ (s : Shared) (H : Hp) (C : Addr) (cl : List (Str × Addr)) (fp : List Addr), JQ (BlkCx X s H scope C cl fp) ar ifs1 tt1)
    (he : ∀ (s : Shared) (H : Hp) (C : Addr) (cl : List (Str × Addr)) (fp : List Addr), JE (BlkCx X s H scope C cl fp) ar b true elt te) (hs : ∀ x, foldedSetIterable iter X.env x = pure x := by intro _; rfl)
    (hs1 : ∀ (env : Env) (x : Value), foldedSetIterable iter1 env x = pure x := by intro _ _; rfl) :
    JE X ar false true (.ListComp elt [⟨tg, iter, ifs, 0⟩, ⟨tg1, iter1, ifs1, 0⟩] scope pos) (sLc2 ti g tt ti1 g1 tt1 te (ow.map (·.2)) vs1) :=
  JE.of_pe (pe_lc2 (g := liG X ar g ts) (tt := liTn X.K ar tt) (g1 := liG X ar g1 ts1) (tt1 := liTn X.K ar tt1) hc hN hi ok hv (fun s H C cl fp => hg s H C cl fp) (fun s H C cl fp => ht s H C cl fp) (fun s H C cl fp => (hi1 s H C cl fp).pin) (fun s H C cl fp => hg1 s H C cl fp) (fun s H C cl fp => ht1 s H C cl fp) (fun s H C cl fp => (he s H C cl fp).pen) hs hs1) fun σ I H F σs Qk ES Q st tx q hQ => lc2_imp hts hts1 st tx q hQ
theorem js_setLc2 {i : Nat} {y : Str} {py : Pos} {spos : Pos} (hc : X.calm = true) (hp : ar i = none) (hN : X.N.Nodup) (hy : X.N[i]? = some y) (hyl : X.env.scope.names.lookup y = some .local)
    (hsw : swapsWith (.ListComp elt [⟨tg, iter, ifs, 0⟩, ⟨tg1, iter1, ifs1, 0⟩] scope pos) (some (.Name y py)) spos.line X.env = pure true) (hi : JI X ar tg iter ti) (ok : BlkOk X.N X.env.scope scope ow) (hts : ∀ t ∈ ts, t ∈ ow.map (·.2)) (hv : ∀ i ∈ vs1, i ∈ ow.map (·.2)) (hts1 : ∀ t ∈ ts1, t ∈ vs1)
    (hg : ∀ (s : Shared) (H : Hp) (C : Addr) (cl : List (Str × Addr)) (fp : List Addr), JG (BlkCx X s H scope C cl fp) ar tg g ts) (ht : ∀ (s : Shared) (H : Hp) (C : Addr) (cl : List (Str × Addr)) (fp : List Addr), JQ (BlkCx X s H scope C cl fp) ar ifs tt)
    (hi1 : ∀ (s : Shared) (H : Hp) (C : Addr) (cl : List (Str × Addr)) (fp : List Addr), JI (BlkCx X s H scope C cl fp) ar tg1 iter1 ti1)
    (hg1 : ∀ (s : Shared) (H : Hp) (C : Addr) (cl : List (Str × Addr)) (fp : List Addr), JG (BlkCx X s H scope C cl fp) ar tg1 g1 ts1) (ht1 : ∀ (s : Shared) (H : Hp) (C : Addr) (cl : List (Str × Addr)) (fp : List Addr), JQ (BlkCx X s H scope C cl fp) ar ifs1 tt1)
    (he : ∀ (s : Shared) (H : Hp) (C : Addr) (cl : List (Str × Addr)) (fp : List Addr), JE (BlkCx X s H scope C cl fp) ar b true elt te) (hs : ∀ x, foldedSetIterable iter X.env x = pure x := by intro _; rfl)
    (hs1 : ∀ (env : Env) (x : Value), foldedSetIterable iter1 env x = pure x := by intro _ _; rfl) :
    JS X ar (.Assign [.Name y py] (.ListComp elt [⟨tg, iter, ifs, 0⟩, ⟨tg1, iter1, ifs1, 0⟩] scope pos) spos) (sSet i (sLc2 ti g tt ti1 g1 tt1 te (ow.map (·.2)) vs1)) := by
  refine ⟨fun pins s σ H D J ⟨I, F, σs, Ds, ES, st, tx, q, r⟩ => ?_⟩
  have hl : i < σs.length := by rw [st.len, J.len]; exact (List.getElem?_eq_some_iff.mp hy).1
  refine (ps_setLc2 (g := liG X ar g ts) (tt := liTn X.K ar tt) (g1 := liG X ar g1 ts1) (tt1 := liTn X.K ar tt1) hc hN hy hyl hsw hi ok hv (fun s H C cl fp => hg s H C cl fp) (fun s H C cl fp => ht s H C cl fp) (fun s H C cl fp => (hi1 s H C cl fp).pin) (fun s H C cl fp => hg1 s H C cl fp) (fun s H C cl fp => ht1 s H C cl fp) (fun s H C cl fp => (he s H C cl fp).pen) hs hs1).run pins s σ H D J (lc2_imp hts hts1 st tx q fun v H' ⟨r', R, I', F', σs', ev, st', sr, nf, nI, q'⟩ => ?_)
  exact r.nx _ _ ⟨I', put1 F' i R, _, ev.stored, st'.store (by rw [st'.len, ← st.len]; exact hl) sr nf nI (.inr hp), q'⟩
end
end SV
namespace SV
open PySem PySem.Spec PyProof.Rows L2
/-! ### list(range(a, b)) -/
def rngV (lo hi : Int) : List V := (List.range (hi - lo).toNat).map fun i => V.int (lo + (i : Nat))
theorem rngV_D {K : PySem.W.Frag} {I : Hp} (lo hi : Int) : PRs K I (rngV lo hi) (rangeD lo hi) := by
  unfold rngV rangeD
  induction List.range (hi - lo).toNat with
  | nil => exact .nil
  | cons a l ih => exact .cons (.int _) ih
def RngOk (i j : Int) : Prop := -1000000 ≤ i ∧ j ≤ 1000000
theorem paired_of {α β : Type} {R : α → β → Prop} : ∀ {xs : List α} {ys : List β}, xs.length = ys.length → (∀ (j : Nat) (x : α) (y : β), xs[j]? = some x → ys[j]? = some y → R x y) → Paired R xs ys
  | [], [], _, _ => .nil
  | [], _ :: _, h, _ => by cases h
  | _ :: _, [], h, _ => by cases h
  | x :: xs, y :: ys, h, k => .cons (k 0 x y rfl rfl) (paired_of (by simpa using h) fun j a b e1 e2 => k (j + 1) a b (by simpa using e1) (by simpa using e2))
theorem cr_listrng {X : Cx} (hc : X.calm = true) : CallR X (.type "list") fun vs H Q => ∃ a lo hi, vs = [V.ref a] ∧ H a = some (.rng lo hi) ∧ RngOk lo hi ∧ (-1000000 ≤ hi ∧ lo ≤ 1000000) ∧ ∀ l, H l = none → Q (.ref l) (upd H l (.lst (rngV lo hi))) := by
  intro pins s σ H xs us Q J rv ⟨a, lo, hi, e, ha, hr, hr2, q⟩
  subst e
  obtain ⟨u, rfl, rv1⟩ : ∃ u, us = [u] ∧ L2.RelV (.ref a) u := by
    cases rv with
    | cons r1 r2 => cases r2; exact ⟨_, rfl, r1⟩
  cases rv1
  have oo := J.hok a _ ha
  obtain ⟨t, u, v, h⟩ := oo
  have hn : Builtin.Range.rangeSize lo hi 1 = ((hi - lo).toNat : Int) := by
    unfold Builtin.Range.rangeSize
    rw [if_pos (by decide)]
    split <;> omega
  obtain ⟨h1, h2⟩ := hr
  obtain ⟨h3, h4⟩ := hr2
  refine call_list_range (n := (hi - lo).toNat) (J.ok.hd hc) h ?_ hn (by omega) fun h' tk acc' c' keep got items => ?_
  · unfold Builtin.Range.small
    rw [hn]
    unfold Builtin.Range.rangeFitsLong
    simp
    omega
  · have hf : H s.heap.objs.size = none := J.hok.fresh (Nat.le_refl _)
    refine ⟨.ref s.heap.objs.size, upd H s.heap.objs.size (.lst (rngV lo hi)), J.laid (t' := tk) keep (Nat.le_refl _) ?_, rfl, q _ hf⟩
    refine ⟨?_, acc'.toList, c', ?_, ?_⟩
    · have : (rngV lo hi).length = (hi - lo).toNat := by unfold rngV; simp
      show (rngV lo hi).length ≤ 2 ^ 24
      omega
    · refine paired_of (by unfold rngV; simp [items.1]) fun j x y e1 e2 => ?_
      obtain ⟨t, rfl⟩ := items.2 j y (by simpa using e2)
      have hj : j < (hi - lo).toNat := by
        have := (List.getElem?_eq_some_iff.mp e1).1
        simpa [rngV] using this
      unfold rngV at e1
      rw [List.getElem?_map, List.getElem?_range hj] at e1
      cases Option.some.inj e1
      rw [Int.mul_one]
      exact ⟨t, rfl⟩
    · simpa using got
/-- list(range(a, b)) -/
def sLR (ta tb : TEs) : TEs := fun σs Q ES => ta σs (fun r σ1 => match r with
  | .val (.int i) => tb σ1 (fun r' σ2 => match r' with
    | .val (.int j) => (RngOk i j ∧ RngOk j i) ∧ Q (.lst (rangeD i j)) σ2
    | _ => False) ES
  | _ => False) ES
section
variable {X : Cx} {ar : Nat → Option V} {a b : Expr} {ta tb : TEs} {b1 b2 m1 m2 : Bool} {p p2 pos pos2 : Pos}
theorem je_lrng (hc : X.calm = true) (hgl : Gl X "list") (hml : X.mg "list" = none) (hvl : bootBuiltins "list" = some (.type "list")) (hgr : Gl X "range") (hmr : X.mg "range" = none) (hvr : bootBuiltins "range" = some (.type "range"))
    (ha : JE X ar b1 true a ta) (hb : JE X ar b2 true b tb) (hs : starEach [a, b] X.env = (false, eval a X.env) :: starEach [b] X.env := by rfl) (hs1 : starEach [b] X.env = (false, eval b X.env) :: starEach [] X.env := by rfl) (hs2 : starEach [.Call (.Name "range" p2) [a, b] [] pos2] X.env = (false, eval (.Call (.Name "range" p2) [a, b] [] pos2) X.env) :: starEach [] X.env := by rfl)
    (hk : ((backTo pos2 (starEach [b] X.env)).any fun x => x.1) = false := by rfl) :
    JE X ar false true (.Call (.Name "list" p) [.Call (.Name "range" p2) [a, b] [] pos2] [] pos) (sLR ta tb) := by
  refine JE.of_pe (pe_callTy (cr_listrng hc) hgl hml hvl (pa_cons (pe_callTy cr_range2 hgr hmr hvr (pa_cons ha.pe (pa_cons hb.pe pa_nil hs1) hs) (by decide +kernel) (by decide) hs hk) pa_nil hs2) (by decide +kernel) (by decide) hs2 (by rfl)) fun σ I H F σs Qk ES Q st tx q hQ => ?_
  refine ⟨I, F, σs, _, ES, st, tx, q, fun v r R I1 H1 F1 σ1 ev1 st1 sr1 _ _ q1 => ?_⟩
  cases r with
  | val y =>
    obtain ⟨eR, pr⟩ := sr1.val_inv
    subst eR
    cases y with
    | int i =>
      cases pr
      refine ⟨I1, F1, σ1, _, ES, st1, tx.go ev1.drop fun _ z => z, q1, fun v r R I2 H2 F2 σ2 ev2 st2 sr2 _ _ q2 => ?_⟩
      cases r with
      | val y =>
        obtain ⟨eR, pr⟩ := sr2.val_inv
        subst eR
        cases y with
        | int j =>
          cases pr
          obtain ⟨⟨⟨b1, b2⟩, b3, b4⟩, q3⟩ := q2
          refine ⟨i, j, rfl, fun p hp => ⟨p, i, j, rfl, upd_same, ⟨b1, b2⟩, ⟨b3, b4⟩, fun l hl => hQ _ _ ?_⟩⟩
          have lp : l ≠ p := fun z => by subst z; rw [upd_same] at hl; cases hl
          have hl2 : H2 l = none := by rwa [upd_ne lp] at hl
          have up : ∀ a x, H2 a = some x → upd (upd H2 p (.rng i j)) l (.lst (rngV i j)) a = some x := fun a x e => by
            have n1 : a ≠ l := fun z => by subst z; rw [hl2] at e; cases e
            have n2 : a ≠ p := fun z => by subst z; rw [hp] at e; cases e
            rw [upd_ne n1, upd_ne n2]
            exact e
          have ev3 : Evo I2 H2 (own F2) I2 (upd (upd H2 p (.rng i j)) l (.lst (rngV i j))) (fun a => a ∈ [l] ∨ own F2 a) := by
            refine ⟨.refl _, fun a x e _ => up a x e, fun a z => ?_, fun a x e => .inl e⟩
            rcases z with z | z
            · have : a = l := by simpa using z
              subst this
              exact .inr hl2
            · exact .inl z
          have one : ∀ a ∈ [l], a = l := fun a m => by simpa using m
          refine ⟨.lst (rangeD i j), [l], I2, F2, σ2, ev1.drop.trans ((ev2.drop.trans ev3 (fun _ z => z) fun c z => .inr z : Evo I1 H1 (own F1) I2 _ (fun a => a ∈ [l] ∨ own F2 a))) (fun _ z => z) fun c z => .inr z, st2.keep (fun a x e => up a x (st2.sub a x e)) (.refl _) (fun a _ x e => up a x e) fun a m => st2.ownI m, .lst upd_same (rngV_D _ _), fun a m z => ?_, fun a m => ?_, q3⟩
          · rw [one a m] at z
            obtain ⟨x, e⟩ := st2.there z
            rw [hl2] at e
            cases e
          · rw [one a m]
            cases e : I2 l with
            | none => rfl
            | some x => rw [st2.sub _ _ e] at hl2; cases hl2
        | _ => exact q2.elim
      | _ => exact q2.elim
    | _ => exact q1.elim
  | _ => exact q1.elim
end
end SV
/-! SvT: a def called with a fresh list of its own, and pure data behind it. -/
namespace SV
open PySem PySem.Spec PyProof.Rows L2
def sCallF (sp : Sps) (te : TEs) (tp : TPs) : TEs := fun σs Q ES => te σs (fun r σ1 => match r with
  | .lst ds => tp σ1 (fun es σ2 => sp (.lst ds :: es.map .val) (fun r _ => Q r σ2) (fun cls ed => ES cls ed σ2)) ES
  | _ => False) ES
section
variable {X : Cx} {ar : Nat → Option V} {k : Nat} {f : Addr} {fd : FuncData} {ps : List Str} {sp : Sps} {x : Str} {p pos : Pos} {e : Expr} {es : List Expr} {te : TEs} {tp : TPs} {b1 b2 : Bool}
variable {pins : List (Addr × Obj)} {σ : L2.St} {I0 H0 I H : Hp} {F0 F : Nat → List Addr} {σ0 σs : SSt} {s : Shared}
theorem run_fresh (G : FnG X.prog X.w X.K X.mg X.base k f fd ps sp) (hr : Room k X.A) (hg : X.A.guards = some []) (hb : Binds X.K fd ps []) {us : List Value} {v0 : V} {R : List Addr} {ds : List PyData} {vs : List V} {es : List PyData} {Q : KS} {ES : XS}
    (d0 : RPd X ar pins σ b1 true I0 H0 F0 σ0 v0 (.lst ds) R I H F σs s) (tx : TX X ar I0 H0 (own F0) ES) (rv : Vals (v0 :: vs) us) (pv : PRs X.K I vs es)
    (q : sp (.lst ds :: es.map .val) (fun r _ => Q r σs) (fun cls ed => ES cls ed σs)) : wpAny (model X.prog X.w) X.A (call (.ref f) us) (RP X ar pins σ false true I0 H0 F0 σ0 Q) X.xe s := by
  have J := d0.inv
  have st := d0.st
  have lps : us.length = ps.length := by rw [← rv.length, ← G.len _ _ _ q]; simp [pv.length]
  have fc : ∀ {a}, own (fun k => if k = 0 then R else []) a → a ∈ R := fun {a} ⟨k, m⟩ => by
    dsimp only at m
    split at m
    · exact m
    · cases m
  have st0 : StR X.K (arV (v0 :: vs)) I H ((v0 :: vs).map some) ((S.lst ds :: es.map .val).map some) (fun k => if k = 0 then R else []) := by
    refine ⟨st.sub, fun j r h => ?_, fun j h => ?_, fun i j a m m' => ?_, fun j a m => d0.nI a (fc ⟨j, m⟩), fun j v r h1 h2 => ?_, by simp [pv.length]⟩
    · rw [gets_map] at h
      cases j with
      | zero =>
        cases (Option.some.inj h)
        exact ⟨v0, rfl, d0.sr⟩
      | succ j =>
        have h' : (es.map S.val)[j]? = some r := by simpa using h
        rw [List.getElem?_map] at h'
        obtain ⟨d, e1, rfl⟩ := Option.map_eq_some_iff.mp h'
        obtain ⟨v, e2, p2⟩ := pv.get e1
        exact ⟨v, by simpa using e2, .val p2⟩
    · cases j with
      | zero => cases h
      | succ j => rfl
    · try dsimp only at m m'
      split at m
      · split at m'
        · omega
        · cases m'
      · cases m
    · exact .inr (by rw [List.getElem?_map, show (v0 :: vs)[j]? = some v from h1]; rfl)
  have bt := hb s us J.kIn (by rw [List.append_nil]; exact lps)
  rw [List.append_nil] at bt
  -- the caller's own objects stay
  have nR : ∀ {a}, own F a → a ∉ R := fun {a} m z => d0.nf rfl a z m
  refine wpAny_call (codeAny_mono (G.run X.A X.stack s H I _ ⟨us, []⟩ us (v0 :: vs) (.lst ds :: es.map .val) _ _ hr hg J.env0 bt rv st0 q) fun r s' hq => ?_)
  have keepS : ∀ {I' H' : Hp} {o : Addr → Prop}, Evo I H (own fun k => if k = 0 then R else []) I' H' o → Sub I' H' → StR X.K ar I' H' σ σs F := fun {I' H' o} ev sb => by
    refine st.keep sb ev.up (fun a m x h => ev.fr a x h fun z => nR m (fc z)) fun a m => ?_
    cases e : I' a with
    | none => rfl
    | some y =>
      rcases ev.ni a y e with e | e | e
      · rw [st.ownI m] at e; cases e
      · exact absurd (fc e) (nR m)
      · obtain ⟨z, e2⟩ := st.there m
        rw [e] at e2
        cases e2
  cases r with
  | error e =>
    obtain ⟨W, tk, hW⟩ := tx
    refine tk e s' (XE.of_call J (E := EQ X.K I H (fun k => if k = 0 then R else []) _) (fun cls d H' hE => ?_) hq)
    obtain ⟨I', ed, ev, sb', hed, he⟩ := hE
    exact hW cls d σ I' H' F σs ed (d0.evo.trans ev (fun c z => .inl (fc z)) fun c z => .inl (.inr z)) (keepS ev sb') hed he
  | ok fl =>
    cases fl with
    | ret u =>
      obtain ⟨v, H', J', rr, r, R2, I', F', ss', ev, st', sr, nf, nI, q'⟩ := J.after (show CE X.stack X.prog X.w H s _ u s' from hq)
      refine ⟨v, r, R2, I', H', F, σs, ⟨J', d0.evo.trans ev (fun c z => .inl (fc z)) (fun c z => ?_), keepS ev st'.sub, sr, fun _ a m z => ?_, nI, fun z => Bool.noConfusion z⟩, rr, q'⟩
      · rcases z with z | z
        · exact .inr (.inl z)
        · exact .inl (.inr z)
      · rcases ev.nw a (.inl m) with y | y
        · exact nR z (fc y)
        · obtain ⟨w, e2⟩ := st.there z
          rw [y] at e2
          cases e2
    | next => exact False.elim hq
    | brk => exact False.elim hq
    | cont => exact False.elim hq
theorem je_callF (G : FnG X.prog X.w X.K X.mg X.base k f fd ps sp) (hr : Room k X.A) (hgd : X.A.guards = some []) (hg : Gl X x) (hm : X.mg x = some (.ref f)) (hk : PySem.W.keepIn X.K (.ref f) = true) (hb : Binds X.K fd ps [])
    (he : JE X ar b1 true e te) (ha : JA X ar b2 es tp) (hdb : (x == ("__debug__" : Str)) = false := by decide) (hs : starEach (e :: es) X.env = (false, eval e X.env) :: starEach es X.env := by rfl) (hpl : (backTo pos (starEach es X.env)).any (·.1) = false := by rfl) :
    JE X ar false true (.Call (.Name x p) (e :: es) [] pos) (sCallF sp te tp) := by
  refine ⟨fun pins s σ I H F σs Q ES J st tx q => ?_⟩
  refine wpAny_Call_Name_kw (ld_glob J hg hm ?_ hdb)
  refine PySem.W.callWith_K (h₀ := X.base) J.ok.mod.kin hk (?_ : wpAny (model X.prog X.w) X.A (spliced (backTo pos (starEach (e :: es) X.env))) _ _ s) hs hpl
  rw [hs]
  show wpAny _ _ (spliced ((false, eval e X.env) :: backTo pos (starEach es X.env))) _ _ s
  refine Calls.spliced_cons (thn (he.run pins s σ I H F σs _ ES J st tx q) fun v s1 ⟨x, r, R1, I1, H1, F1, σ1, h1, r1, q1⟩ => ?_)
  cases r with
  | lst ds =>
    refine thn (ha.run pos pins s1 σ I1 H1 F1 σ1 _ ES h1.inv h1.st (tx.go h1.evo fun _ z => .inr z) q1) fun us s2 ⟨vs, es', I2, H2, F2, σ2, h2, rv, pv, q2⟩ => ?_
    exact ⟨h2.inv.kIn, run_fresh G hr hgd hb (h1.over h2 (.inl rfl)).2.2.2 tx (.cons r1 rv) pv q2⟩
  | _ => exact (show False from q1).elim
end
end SV
/-! SvU: slices by take and drop; two-clause comprehensions that change nothing. -/
namespace SV
open PySem PySem.Spec PyProof.Rows L2
theorem cut_to {α : Type} (xs : List α) {i : Int} (h : 0 ≤ i) : SV.cutD xs none (some i) = xs.take i.toNat := by
  have e : HT.sIx xs.length xs.length (some i) = min i.toNat xs.length := by
    show (if i < 0 then (i + xs.length).toNat else min i.toNat xs.length) = _
    rw [if_neg (by omega)]
  unfold SV.cutD
  rw [e]
  show (xs.drop 0).take (min i.toNat xs.length - 0) = _
  rw [List.drop_zero, Nat.sub_zero, ← List.take_eq_take_min]
theorem cut_from {α : Type} (xs : List α) {i : Int} (h : 0 ≤ i) : SV.cutD xs (some i) none = xs.drop i.toNat := by
  have e : HT.sIx xs.length 0 (some i) = min i.toNat xs.length := by
    show (if i < 0 then (i + xs.length).toNat else min i.toNat xs.length) = _
    rw [if_neg (by omega)]
  unfold SV.cutD
  rw [e]
  show (xs.drop (min i.toNat xs.length)).take (xs.length - min i.toNat xs.length) = _
  rw [List.take_of_length_le (by rw [List.length_drop]; omega)]
  by_cases hk : i.toNat ≤ xs.length
  · rw [Nat.min_eq_left hk]
  · rw [Nat.min_eq_right (by omega), List.drop_eq_nil_of_le (by omega), List.drop_eq_nil_of_le (by omega)]
theorem cut_init {α : Type} (xs : List α) : SV.cutD xs none (some (-1)) = xs.dropLast := by
  have e : HT.sIx xs.length xs.length (some (-1)) = (-1 + (xs.length : Int)).toNat := by
    show (if (-1 : Int) < 0 then (-1 + (xs.length : Int)).toNat else min (-1 : Int).toNat xs.length) = _
    rw [if_pos (by decide)]
  unfold SV.cutD
  rw [e]
  show (xs.drop 0).take ((-1 + (xs.length : Int)).toNat - 0) = _
  rw [List.drop_zero, Nat.sub_zero, List.dropLast_eq_take]
  congr 1
  omega
theorem cut_len {α : Type} (xs : List α) (lo hi : Option Int) : (SV.cutD xs lo hi).length ≤ xs.length := by
  unfold SV.cutD
  rw [List.length_take, List.length_drop]
  omega
theorem cut_map {α β : Type} (f : α → β) (xs : List α) (lo hi : Option Int) : SV.cutD (xs.map f) lo hi = (SV.cutD xs lo hi).map f := by
  unfold SV.cutD
  rw [List.length_map, List.map_take, List.map_drop]
/-! ### two clauses -/
theorem lcg_map {α : Type} (f : α → PyData) {g : TGt} {B : BL} {vs : List Nat} {K : List PyData → SSt → Prop} (Iv : List α → List PyData → SSt → Prop)
    (step : ∀ x xs acc σs (N : List PyData → SSt → Prop), (∀ a σ', Iv xs a σ' → N a σ') → Iv (x :: xs) acc σs → nd (g (f x) σs) fun σ1 => B σ1 acc fun acc' σ2 => N acc' (wipeS σ2 vs))
    (fin : ∀ acc σs, Iv [] acc σs → K acc σs) : ∀ (xs : List α) (acc : List PyData) (σs : SSt), Iv xs acc σs → lcTG g B vs (xs.map f) acc σs K
  | [], acc, σs, h => fin acc σs h
  | x :: xs, acc, σs, h => step x xs acc σs (fun a σ' => lcTG g B vs (xs.map f) a σ' K) (fun a σ' h' => lcg_map f Iv step fin xs a σ' h') h
theorem sets_comm : ∀ {σ : SSt} {i j : Nat} {a b : Option S}, i ≠ j → sets (sets σ i a) j b = sets (sets σ j b) i a
  | [], _, _, _, _, _ => rfl
  | _ :: _, 0, 0, _, _, h => absurd rfl h
  | _ :: _, 0, _ + 1, _, _, _ => rfl
  | _ :: _, _ + 1, 0, _, _, _ => rfl
  | x :: r, i + 1, j + 1, a, b, h => by
    show x :: sets (sets r i a) j b = x :: sets (sets r j b) i a
    rw [sets_comm (fun z => h (by rw [z]))]
theorem lc2_pure {α β : Type} (fa : α → PyData) (inner : α → List β) (fb e : β → PyData) {ti1 : TIs} {te : TEs} {v v1 : Nat} {σ0 : SSt} {K : List PyData → SSt → Prop} (hv : v < σ0.length) (hv1 : v1 < σ0.length) (hne : v ≠ v1) (hn : sets σ0 v none = σ0) (hn1 : sets σ0 v1 none = σ0) (xs : List α)
    (hx : (xs.flatMap inner).length ≤ 16000000)
    (hti : ∀ x ∈ xs, ∀ Q : List PyData → SSt → Prop, Q ((inner x).map fb) (sets σ0 v (some (.val (fa x)))) → ti1 (sets σ0 v (some (.val (fa x)))) Q noX)
    (hte : ∀ x ∈ xs, ∀ y ∈ inner x, ∀ Q : KS, Q (.val (e y)) (sets (sets σ0 v (some (.val (fa x)))) v1 (some (.val (fb y)))) → te (sets (sets σ0 v (some (.val (fa x)))) v1 (some (.val (fb y)))) Q noX)
    (fin : K ((xs.flatMap inner).map e) σ0) : lcTG (gVar v) (bLc2 tYesS ti1 (gVar v1) tYesS te [v1]) [v, v1] (xs.map fa) [] σ0 K := by
  refine lcg_map fa (fun rem acc σ => ∃ done, xs = done ++ rem ∧ acc = (done.flatMap inner).map e ∧ σ = σ0) (fun x r acc σ N hN h => ?_) (fun acc σ h => ?_) xs [] σ0 ⟨[], rfl, rfl, rfl⟩
  · obtain ⟨done, e1, rfl, rfl⟩ := h
    have mx : x ∈ xs := by rw [e1]; simp
    have eg : gVar v (fa x) σ = some (sets σ v (some (.val (fa x)))) := by
      unfold gVar
      rw [if_pos hv]
    rw [eg]
    show ti1 _ _ noX
    refine hti x mx _ ?_
    have hlen : (sets σ v (some (.val (fa x)))).length = σ.length := sets_length
    have w1 : wipeS (sets σ v (some (.val (fa x)))) [v1] = sets σ v (some (.val (fa x))) := by
      show sets (sets σ v (some (.val (fa x)))) v1 none = _
      rw [sets_comm hne, hn1]
    rw [w1]
    have tot := congrArg (fun l : List α => (l.flatMap inner).length) e1
    simp only [List.flatMap_append, List.flatMap_cons, List.length_append] at tot
    refine lcg_map fb (fun rem acc σ' => ∃ d2, inner x = d2 ++ rem ∧ acc = (done.flatMap inner).map e ++ d2.map e ∧ σ' = sets σ v (some (.val (fa x)))) (fun y r2 acc σ' N2 hN2 h => ?_) (fun acc σ' h => ?_) (inner x) _ _ ⟨[], rfl, by simp, rfl⟩
    · obtain ⟨d2, e2, rfl, rfl⟩ := h
      have my : y ∈ inner x := by rw [e2]; simp
      have eg2 : gVar v1 (fb y) (sets σ v (some (.val (fa x)))) = some (sets (sets σ v (some (.val (fa x)))) v1 (some (.val (fb y)))) := by
        unfold gVar
        rw [if_pos (by rw [hlen]; exact hv1)]
      rw [eg2]
      show te _ _ noX
      refine hte x mx y my _ ?_
      have l2 := congrArg List.length e2
      rw [List.length_append, List.length_cons] at l2
      refine ⟨room2 (by rw [List.length_append, List.length_map, List.length_map]; omega), hN2 _ _ ⟨d2 ++ [y], by rw [e2]; simp, by simp, ?_⟩⟩
      show sets (sets (sets σ v (some (.val (fa x)))) v1 (some (.val (fb y)))) v1 none = _
      rw [sets_sets, sets_comm hne, hn1]
    · obtain ⟨d2, e2, rfl, rfl⟩ := h
      rw [List.append_nil] at e2
      refine hN _ _ ⟨done ++ [x], by rw [e1]; simp, by rw [← e2]; simp [List.flatMap_append], ?_⟩
      show sets (sets (sets σ v (some (.val (fa x)))) v1 none) v none = σ
      rw [sets_comm hne, hn1, sets_sets, hn]
  · obtain ⟨done, e1, rfl, rfl⟩ := h
    rw [List.append_nil] at e1
    rw [← e1]
    exact fin
end SV
namespace SV
open PySem PySem.Spec PyProof.Rows L2
/-! ### what kind a class is -/
theorem exm_mk {K : PySem.W.Frag} {R C : Addr} {b : Bool} (h1 : PySem.W.subIn K (.ref C) (.type "BaseException") = some true) (h2 : PySem.W.isClsIn K C = true) (h3 : PySem.W.typeIn K (.ref C) = some (.type "type")) (h4 : PySem.W.subIn K (.ref R) (.ref C) = some b) : PySem.W.exmOne K (.ref R) (.ref C) = some b := by
  have e1 : (PySem.W.subIn K (.ref C) (.type "BaseException") == some true) = true := by rw [h1] <;> rfl
  have e2 : ((PySem.W.clsIn K C).isSome && PySem.W.typeIn K (.ref C) == some (.type "type")) = true := by
    have h2' : (PySem.W.clsIn K C).isSome = true := h2
    rw [h2', h3] <;> rfl
  show (if (PySem.W.subIn K (.ref C) (.type "BaseException") == some true) = true then (if ((PySem.W.clsIn K C).isSome && PySem.W.typeIn K (.ref C) == some (.type "type")) = true then PySem.W.subIn K (.ref R) (.ref C) else none) else none) = some b
  rw [if_pos e1, if_pos e2]
  exact h4
theorem kit_mk {K : PySem.W.Frag} {R C : Addr} {b : Bool} (h2 : PySem.W.isClsIn K C = true) (h3 : PySem.W.typeIn K (.ref C) = some (.type "type")) (h4 : PySem.W.subIn K (.ref R) (.ref C) = some b) (ne : b = true ∨ (Value.ref R == Value.ref C) = false) : PySem.W.kitOne K (.ref R) (.ref C) = some b := by
  have e2 : ((PySem.W.clsIn K C).isSome && PySem.W.typeIn K (.ref C) == some (.type "type")) = true := by
    have h2' : (PySem.W.clsIn K C).isSome = true := h2
    rw [h2', h3] <;> rfl
  show (if (Value.ref R == Value.ref C) = true then some true else (if ((PySem.W.clsIn K C).isSome && PySem.W.typeIn K (.ref C) == some (.type "type")) = true then PySem.W.subIn K (.ref R) (.ref C) else none)) = some b
  rcases ne with rfl | e
  · by_cases e : (Value.ref R == Value.ref C) = true
    · rw [if_pos e]
    · rw [if_neg e, if_pos e2]
      exact h4
  · rw [if_neg (by rw [e]; decide), if_pos e2]
    exact h4
end SV
namespace K12
open PySem PySem.Spec PyProof.Rows L2 SV
def topS (i : Nat) : Stmt := PySem.Challenge.pw_coheir_k12_programs_and_what_is_none.main.body.getD i (.Pass ⟨0, 0, 0, 0⟩)
abbrev s_isinstruction : Stmt := topS 12
theorem sc_isinstruction : FnScope ["one"] ["one"] (defScope s_isinstruction) := ⟨rfl, rfl, rfl, by decide +kernel, rfl, by decide +kernel, by decide +kernel⟩
abbrev s_isprogram : Stmt := topS 13
theorem sc_isprogram : FnScope ["program", "core", "one"] ["program"] (defScope s_isprogram) := ⟨rfl, rfl, rfl, by decide +kernel, rfl, by decide +kernel, by decide +kernel⟩
abbrev s_checkprogram : Stmt := topS 14
theorem sc_checkprogram : FnScope ["program"] ["program"] (defScope s_checkprogram) := ⟨rfl, rfl, rfl, by decide +kernel, rfl, by decide +kernel, by decide +kernel⟩
abbrev s_lawasked : Stmt := topS 28
theorem sc_lawasked : FnScope ["program", "error", "kinds"] ["program"] (defScope s_lawasked) := ⟨rfl, rfl, rfl, by decide +kernel, rfl, by decide +kernel, by decide +kernel⟩
abbrev s_lawisone : Stmt := topS 25
theorem sc_lawisone : FnScope ["one"] ["one"] (defScope s_lawisone) := ⟨rfl, rfl, rfl, by decide +kernel, rfl, by decide +kernel, by decide +kernel⟩
abbrev s_lawisprogram : Stmt := topS 26
theorem sc_lawisprogram : FnScope ["program", "core", "one"] ["program"] (defScope s_lawisprogram) := ⟨rfl, rfl, rfl, by decide +kernel, rfl, by decide +kernel, by decide +kernel⟩
abbrev s_lawput : Stmt := topS 20
theorem sc_lawput : FnScope ["parts", "at", "part"] ["parts", "at", "part"] (defScope s_lawput) := ⟨rfl, rfl, rfl, by decide +kernel, rfl, by decide +kernel, by decide +kernel⟩
abbrev s_lawnext : Stmt := topS 18
theorem sc_lawnext : FnScope ["draws"] ["draws"] (defScope s_lawnext) := ⟨rfl, rfl, rfl, by decide +kernel, rfl, by decide +kernel, by decide +kernel⟩
abbrev s_lawpick : Stmt := topS 19
theorem sc_lawpick : FnScope ["draws", "some"] ["draws", "some"] (defScope s_lawpick) := ⟨rfl, rfl, rfl, by decide +kernel, rfl, by decide +kernel, by decide +kernel⟩
abbrev s_lawspoilt : Stmt := topS 27
theorem sc_lawspoilt : FnScope ["draws", "program", "kind", "c", "core", "i", "one"] ["draws", "program"] (defScope s_lawspoilt) := ⟨rfl, rfl, rfl, by decide +kernel, rfl, by decide +kernel, by decide +kernel⟩
abbrev s_lawboundshold : Stmt := topS 29
theorem sc_lawboundshold : FnScope ["number", "word", "many"] [] (defScope s_lawboundshold) := ⟨rfl, rfl, rfl, by decide +kernel, rfl, by decide +kernel, by decide +kernel⟩
abbrev s_lawone : Stmt := topS 21
theorem sc_lawone : FnScope ["draws", "lines", "kind", "line", "value"] ["draws", "lines"] (defScope s_lawone) := ⟨rfl, rfl, rfl, by decide +kernel, rfl, by decide +kernel, by decide +kernel⟩
abbrev s_lawprogram : Stmt := topS 22
theorem sc_lawprogram : FnScope ["draws", "cores", "most", "lines", "i", "c"] ["draws", "cores", "most", "lines"] (defScope s_lawprogram) := ⟨rfl, rfl, rfl, by decide +kernel, rfl, by decide +kernel, by decide +kernel⟩
abbrev s_lawmore : Stmt := topS 23
theorem sc_lawmore : FnScope ["draws", "many", "seed", "more", "k"] ["draws", "many"] (defScope s_lawmore) := ⟨rfl, rfl, rfl, by decide +kernel, rfl, by decide +kernel, by decide +kernel⟩
abbrev s_lawanyprogram : Stmt := topS 24
theorem sc_lawanyprogram : FnScope ["draws"] ["draws"] (defScope s_lawanyprogram) := ⟨rfl, rfl, rfl, by decide +kernel, rfl, by decide +kernel, by decide +kernel⟩
abbrev s_lawnumber : Stmt := topS 16
theorem sc_lawnumber : FnScope ["cell"] ["cell"] (defScope s_lawnumber) := ⟨rfl, rfl, rfl, by decide +kernel, rfl, by decide +kernel, by decide +kernel⟩
abbrev s_lawdraws : Stmt := topS 17
theorem sc_lawdraws : FnScope ["script", "draws", "cell", "rest", "k", "once", "twice"] ["script"] (defScope s_lawdraws) := ⟨rfl, rfl, rfl, by decide +kernel, rfl, by decide +kernel, by decide +kernel⟩
abbrev s_law : Stmt := topS 30
theorem sc_law : FnScope ["script", "draws", "program", "k", "given", "due"] ["script"] (defScope s_law) := ⟨rfl, rfl, rfl, by decide +kernel, rfl, by decide +kernel, by decide +kernel⟩
def tab_PARTS : List (Str × Int) := [("load", 2), ("store", 3), ("swap", 3), ("fence", 1)]
/-- what the top has written -/
structure Facts (P : Program) (w : World) (K : PySem.W.Frag) (mg : Str → Option Value) where
  a_isinstruction : Addr
  d_isinstruction : FuncData
  F_isinstruction : Fun K "is_instruction" "is_instruction" s_isinstruction a_isinstruction d_isinstruction
  b_isinstruction : Binds K d_isinstruction ["one"] []
  g_isinstruction : mg "is_instruction" = some (.ref a_isinstruction)
  a_isprogram : Addr
  d_isprogram : FuncData
  F_isprogram : Fun K "is_program" "is_program" s_isprogram a_isprogram d_isprogram
  b_isprogram : Binds K d_isprogram ["program"] []
  g_isprogram : mg "is_program" = some (.ref a_isprogram)
  a_checkprogram : Addr
  d_checkprogram : FuncData
  F_checkprogram : Fun K "check_program" "check_program" s_checkprogram a_checkprogram d_checkprogram
  b_checkprogram : Binds K d_checkprogram ["program"] []
  g_checkprogram : mg "check_program" = some (.ref a_checkprogram)
  a_lawasked : Addr
  d_lawasked : FuncData
  F_lawasked : Fun K "_law_asked" "_law_asked" s_lawasked a_lawasked d_lawasked
  b_lawasked : Binds K d_lawasked ["program"] []
  g_lawasked : mg "_law_asked" = some (.ref a_lawasked)
  a_lawisone : Addr
  d_lawisone : FuncData
  F_lawisone : Fun K "_law_is_one" "_law_is_one" s_lawisone a_lawisone d_lawisone
  b_lawisone : Binds K d_lawisone ["one"] []
  g_lawisone : mg "_law_is_one" = some (.ref a_lawisone)
  a_lawisprogram : Addr
  d_lawisprogram : FuncData
  F_lawisprogram : Fun K "_law_is_program" "_law_is_program" s_lawisprogram a_lawisprogram d_lawisprogram
  b_lawisprogram : Binds K d_lawisprogram ["program"] []
  g_lawisprogram : mg "_law_is_program" = some (.ref a_lawisprogram)
  a_lawput : Addr
  d_lawput : FuncData
  F_lawput : Fun K "_law_put" "_law_put" s_lawput a_lawput d_lawput
  b_lawput : Binds K d_lawput ["parts", "at", "part"] []
  g_lawput : mg "_law_put" = some (.ref a_lawput)
  a_lawnext : Addr
  d_lawnext : FuncData
  F_lawnext : Fun K "_law_next" "_law_next" s_lawnext a_lawnext d_lawnext
  b_lawnext : Binds K d_lawnext ["draws"] []
  g_lawnext : mg "_law_next" = some (.ref a_lawnext)
  a_lawpick : Addr
  d_lawpick : FuncData
  F_lawpick : Fun K "_law_pick" "_law_pick" s_lawpick a_lawpick d_lawpick
  b_lawpick : Binds K d_lawpick ["draws", "some"] []
  g_lawpick : mg "_law_pick" = some (.ref a_lawpick)
  a_lawspoilt : Addr
  d_lawspoilt : FuncData
  F_lawspoilt : Fun K "_law_spoilt" "_law_spoilt" s_lawspoilt a_lawspoilt d_lawspoilt
  b_lawspoilt : Binds K d_lawspoilt ["draws", "program"] []
  g_lawspoilt : mg "_law_spoilt" = some (.ref a_lawspoilt)
  a_lawboundshold : Addr
  d_lawboundshold : FuncData
  F_lawboundshold : Fun K "_law_bounds_hold" "_law_bounds_hold" s_lawboundshold a_lawboundshold d_lawboundshold
  b_lawboundshold : Binds K d_lawboundshold [] []
  g_lawboundshold : mg "_law_bounds_hold" = some (.ref a_lawboundshold)
  a_lawone : Addr
  d_lawone : FuncData
  F_lawone : Fun K "_law_one" "_law_one" s_lawone a_lawone d_lawone
  b_lawone : Binds K d_lawone ["draws", "lines"] []
  g_lawone : mg "_law_one" = some (.ref a_lawone)
  a_lawprogram : Addr
  d_lawprogram : FuncData
  F_lawprogram : Fun K "_law_program" "_law_program" s_lawprogram a_lawprogram d_lawprogram
  b_lawprogram : Binds K d_lawprogram ["draws", "cores", "most", "lines"] []
  g_lawprogram : mg "_law_program" = some (.ref a_lawprogram)
  a_lawmore : Addr
  d_lawmore : FuncData
  F_lawmore : Fun K "_law_more" "_law_more" s_lawmore a_lawmore d_lawmore
  b_lawmore : Binds K d_lawmore ["draws", "many"] []
  g_lawmore : mg "_law_more" = some (.ref a_lawmore)
  a_lawanyprogram : Addr
  d_lawanyprogram : FuncData
  F_lawanyprogram : Fun K "_law_any_program" "_law_any_program" s_lawanyprogram a_lawanyprogram d_lawanyprogram
  b_lawanyprogram : Binds K d_lawanyprogram ["draws"] []
  g_lawanyprogram : mg "_law_any_program" = some (.ref a_lawanyprogram)
  a_lawnumber : Addr
  d_lawnumber : FuncData
  F_lawnumber : Fun K "_law_number" "_law_number" s_lawnumber a_lawnumber d_lawnumber
  b_lawnumber : Binds K d_lawnumber ["cell"] []
  g_lawnumber : mg "_law_number" = some (.ref a_lawnumber)
  a_lawdraws : Addr
  d_lawdraws : FuncData
  F_lawdraws : Fun K "_law_draws" "_law_draws" s_lawdraws a_lawdraws d_lawdraws
  b_lawdraws : Binds K d_lawdraws ["script"] []
  g_lawdraws : mg "_law_draws" = some (.ref a_lawdraws)
  a_law : Addr
  d_law : FuncData
  F_law : Fun K "law" "law" s_law a_law d_law
  b_law : Binds K d_law ["script"] []
  g_law : mg "law" = some (.ref a_law)
  m_all : mg "all" = none
  m_any : mg "any" = none
  m_int : mg "int" = none
  m_isinstance : mg "isinstance" = none
  m_len : mg "len" = none
  m_list : mg "list" = none
  m_range : mg "range" = none
  m_repr : mg "repr" = none
  m_tuple : mg "tuple" = none
  t_MANY_LINES : Tok
  g_MANY_LINES : mg "MANY_LINES" = some (.int 4 t_MANY_LINES)
  t_MOST_CORES : Tok
  g_MOST_CORES : mg "MOST_CORES" = some (.int 12 t_MOST_CORES)
  t_MOST_INSTRUCTIONS : Tok
  g_MOST_INSTRUCTIONS : mg "MOST_INSTRUCTIONS" = some (.int 24 t_MOST_INSTRUCTIONS)
  t_MOST_VALUE : Tok
  g_MOST_VALUE : mg "MOST_VALUE" = some (.int 99 t_MOST_VALUE)
  A_PARTS : Addr
  g_PARTS : mg "PARTS" = some (.ref A_PARTS)
  d_PARTS : ∀ h : Heap, K.In h → StrTab P w h A_PARTS (tabI tab_PARTS)
  A_BadNumber : Addr
  g_BadNumber : mg "BadNumber" = some (.ref A_BadNumber)
  A_CoheirError : Addr
  g_CoheirError : mg "CoheirError" = some (.ref A_CoheirError)
  A_NotObservation : Addr
  g_NotObservation : mg "NotObservation" = some (.ref A_NotObservation)
  A_NotProgram : Addr
  g_NotProgram : mg "NotProgram" = some (.ref A_NotProgram)
  A_NotTable : Addr
  g_NotTable : mg "NotTable" = some (.ref A_NotTable)
  x_NotProgram : ExK K mg "NotProgram" A_NotProgram
  e_NotProgram : ExcC K A_NotProgram
  exm_NotProgram_CoheirError : PySem.W.exmOne K (.ref A_NotProgram) (.ref A_CoheirError) = some true
  kit_NotProgram_BadNumber : PySem.W.kitOne K (.ref A_NotProgram) (.ref A_BadNumber) = some false
  kit_NotProgram_NotObservation : PySem.W.kitOne K (.ref A_NotProgram) (.ref A_NotObservation) = some false
  kit_NotProgram_NotProgram : PySem.W.kitOne K (.ref A_NotProgram) (.ref A_NotProgram) = some true
  kit_NotProgram_NotTable : PySem.W.kitOne K (.ref A_NotProgram) (.ref A_NotTable) = some false
theorem len_of1 {sp : Sps} {n : Nat} (h : ∀ ss Q E, sp ss Q E → ss.length = n) : ∀ ss Q E, sp ss Q E → ss.length = n := h
def I2 (ns : List Int) : List PyData := ns.map PyData.int
def sp_lawnumber : Sps := fun ss Q _ => ∃ i : Int, ss = [.val (.int i)] ∧ ∀ j : Int, Q (.val (.int j)) [none]
theorem len_lawnumber : ∀ ss Q E, sp_lawnumber ss Q E → ss.length = 1 := by rintro _ _ _ ⟨i, rfl, _⟩; rfl
def sp_lawnext : Sps := fun ss Q _ => ∃ ns : List Int, ss = [.lst (I2 ns)] ∧ ∀ (n : Int) (ms : List Int), ms.length ≤ ns.length → Q (.val (.int n)) [some (.lst (I2 ms))]
theorem len_lawnext : ∀ ss Q E, sp_lawnext ss Q E → ss.length = 1 := by rintro _ _ _ ⟨i, rfl, _⟩; rfl
def sp_lawdraws : Sps := fun ss Q _ => ∃ ns : List Int, ss = [.scr ns] ∧ ns.length ≤ 63 ∧ ∀ ms : List Int, ms.length ≤ 3780 → Q (.lst (I2 ms)) [some (.scr ns)]
theorem len_lawdraws : ∀ ss Q E, sp_lawdraws ss Q E → ss.length = 1 := by rintro _ _ _ ⟨i, rfl, _⟩; rfl
def sp_law : Sps := fun ss Q _ => ∃ ns : List Int, ss = [.scr ns] ∧ ns.length ≤ 63 ∧ Q (.val (.bool true)) [some (.scr ns)]
theorem len_law : ∀ ss Q E, sp_law ss Q E → ss.length = 1 := by rintro _ _ _ ⟨i, rfl, _⟩; rfl
theorem sp_start (ns : List Int) (h : ns.length ≤ 63) : sp_law [.scr ns] lawQ lawE := ⟨ns, rfl, h, rfl⟩
/-! ### what is asked -/
abbrev Ins := Str × List Int
def I1 (i : Ins) : PyData := .tuple (.str i.1 :: i.2.map .int)
def CD (c : List Ins) : PyData := .tuple (c.map I1)
def PD (p : List (List Ins)) : PyData := .tuple (p.map CD)
def isI : Ins → Bool
  | (w, []) => decide (w = "fence")
  | (w, [a]) => decide (w = "load") && decide (0 ≤ a ∧ a < 4)
  | (w, [a, b]) => (decide (w = "store") || decide (w = "swap")) && decide (0 ≤ a ∧ a < 4) && decide (1 ≤ b ∧ b ≤ 99)
  | _ => false
def isP (p : List (List Ins)) : Bool := decide (1 ≤ p.length) && decide (p.length ≤ 12) && p.all (fun c => decide (c.length ≤ 24)) && p.all (fun c => c.all isI)
/-- a shape that may be asked -/
def Shape (p : List (List Ins)) : Prop := p.length ≤ 30 ∧ ∀ c ∈ p, c.length ≤ 100
def sp_isinstruction : Sps := fun ss Q _ => ∃ i : Ins, ss = [.val (I1 i)] ∧ Q (.val (.bool (isI i))) [none]
theorem len_isinstruction : ∀ ss Q E, sp_isinstruction ss Q E → ss.length = 1 := by rintro _ _ _ ⟨i, rfl, _⟩; rfl
def sp_lawisone : Sps := sp_isinstruction
theorem len_lawisone : ∀ ss Q E, sp_lawisone ss Q E → ss.length = 1 := len_isinstruction
def sp_isprogram : Sps := fun ss Q _ => ∃ p : List (List Ins), ss = [.val (PD p)] ∧ Shape p ∧ Q (.val (.bool (isP p))) [none]
theorem len_isprogram : ∀ ss Q E, sp_isprogram ss Q E → ss.length = 1 := by rintro _ _ _ ⟨i, rfl, _⟩; rfl
def sp_lawisprogram : Sps := sp_isprogram
theorem len_lawisprogram : ∀ ss Q E, sp_lawisprogram ss Q E → ss.length = 1 := len_isprogram
def sp_checkprogram (C : Addr) : Sps := fun ss Q E => ∃ p : List (List Ins), ss = [.val (PD p)] ∧ Shape p ∧ (isP p = true → Q (.val .none) [none]) ∧ (isP p = false → E (.ref C) none)
theorem len_checkprogram {C : Addr} : ∀ ss Q E, sp_checkprogram C ss Q E → ss.length = 1 := by rintro _ _ _ ⟨i, rfl, _⟩; rfl
def sp_lawasked : Sps := fun ss Q _ => ∃ p : List (List Ins), ss = [.val (PD p)] ∧ Shape p ∧ Q (.val (if isP p = true then .none else .tuple [.str "refused"])) [none]
theorem len_lawasked : ∀ ss Q E, sp_lawasked ss Q E → ss.length = 1 := by rintro _ _ _ ⟨i, rfl, _⟩; rfl
def sp_lawput : Sps := fun ss Q _ => ∃ (xs : List PyData) (i : Int) (x : PyData), ss = [.val (.tuple xs), .val (.int i), .val x] ∧ xs.length ≤ 1000 ∧ (0 ≤ i ∧ i < 1000) ∧ Q (.val (.tuple (xs.take i.toNat ++ [x] ++ xs.drop (i.toNat + 1)))) [none, none, none]
theorem len_lawput : ∀ ss Q E, sp_lawput ss Q E → ss.length = 3 := by rintro _ _ _ ⟨_, _, _, rfl, _⟩; rfl
def sp_lawpick : Sps := fun ss Q _ => ∃ (ns : List Int) (xs : List PyData), ss = [.lst (I2 ns), .val (.list xs)] ∧ 0 < xs.length ∧ ∀ x ∈ xs, ∀ ms : List Int, Q (.val x) [some (.lst (I2 ms)), none]
theorem len_lawpick : ∀ ss Q E, sp_lawpick ss Q E → ss.length = 2 := by rintro _ _ _ ⟨_, _, rfl, _⟩; rfl
def sp_lawone : Sps := fun ss Q _ => ∃ (ns : List Int), ss = [.lst (I2 ns), .val (.int 4)] ∧ ∀ i : Ins, isI i = true → ∀ ms : List Int, Q (.val (I1 i)) [some (.lst (I2 ms)), none]
theorem len_lawone : ∀ ss Q E, sp_lawone ss Q E → ss.length = 2 := by rintro _ _ _ ⟨_, rfl, _⟩; rfl
def sp_lawprogram : Sps := fun ss Q _ => ∃ (ns : List Int) (cores most : Int), ss = [.lst (I2 ns), .val (.int cores), .val (.int most), .val (.int 4)] ∧ (1 ≤ cores ∧ cores ≤ 12) ∧ (0 ≤ most ∧ most ≤ 24) ∧
  ∀ p : List (List Ins), isP p = true → ∀ ms : List Int, Q (.val (PD p)) [some (.lst (I2 ms)), none, none, none]
theorem len_lawprogram : ∀ ss Q E, sp_lawprogram ss Q E → ss.length = 4 := by rintro _ _ _ ⟨_, _, _, rfl, _⟩; rfl
def sp_lawmore : Sps := fun ss Q _ => ∃ (ns : List Int), ss = [.lst (I2 ns), .val (.int 1200)] ∧ ns.length ≤ 10000 ∧ ∀ ms ms2 : List Int, Q (.lst (I2 ms)) [some (.lst (I2 ms2)), none]
theorem len_lawmore : ∀ ss Q E, sp_lawmore ss Q E → ss.length = 2 := by rintro _ _ _ ⟨_, rfl, _⟩; rfl
def sp_lawanyprogram : Sps := fun ss Q _ => ∃ (ns : List Int), ss = [.lst (I2 ns)] ∧ ns.length ≤ 3780 ∧ ∀ p : List (List Ins), isP p = true → ∀ ms : List Int, Q (.val (PD p)) [some (.lst (I2 ms))]
theorem len_lawanyprogram : ∀ ss Q E, sp_lawanyprogram ss Q E → ss.length = 1 := by rintro _ _ _ ⟨_, rfl, _⟩; rfl
def sp_lawspoilt : Sps := fun ss Q _ => ∃ (ns : List Int) (p : List (List Ins)), ss = [.lst (I2 ns), .val (PD p)] ∧ isP p = true ∧ ∀ p2, Shape p2 → ∀ ms : List Int, Q (.val (PD p2)) [some (.lst (I2 ms)), none]
theorem len_lawspoilt : ∀ ss Q E, sp_lawspoilt ss Q E → ss.length = 2 := by rintro _ _ _ ⟨_, _, rfl, _⟩; rfl
def sp_lawboundshold : Sps := fun ss Q _ => ss = [] ∧ Q (.val (.bool true)) []
theorem len_lawboundshold : ∀ ss Q E, sp_lawboundshold ss Q E → ss.length = 0 := by rintro _ _ _ ⟨rfl, _⟩; rfl
/-! ### the table of words -/
def arW (w : Str) : Int := if w = "load" then 2 else if w = "store" then 3 else if w = "swap" then 3 else if w = "fence" then 1 else 0
theorem ne_words : ("store" : Str) ≠ "load" ∧ ("swap" : Str) ≠ "load" ∧ ("swap" : Str) ≠ "store" ∧ ("fence" : Str) ≠ "load" ∧ ("fence" : Str) ≠ "store" ∧ ("fence" : Str) ≠ "swap" := by decide +kernel
theorem eqv_ni (i : Int) : PyData.eqv .none (.int i) = false := by
  first
  | rfl
  | (unfold PyData.eqv; rfl)
  | simp [PyData.eqv]
theorem eqv_look (w : Str) (n : Int) (hn : 1 ≤ n) : PyData.eqv (lookI tab_PARTS w) (.int n) = decide (arW w = n) := by
  unfold lookI tab_PARTS arW
  have hb : ∀ a b : Str, (a == b) = decide (a = b) := fun a b => by
    by_cases h : a = b
    · rw [decide_eq_true h]; simpa using h
    · rw [decide_eq_false h]; simpa using h
  by_cases h1 : w = "load"
  · subst h1
    rw [List.lookup_cons, hb, decide_eq_true rfl, if_pos rfl]
    exact eqv_int
  by_cases h2 : w = "store"
  · rw [List.lookup_cons, hb, decide_eq_false h1, if_neg h1]
    show PyData.eqv (match List.lookup w [("store", 3), ("swap", 3), ("fence", 1)] with
      | some i => .int i
      | none => .none) (.int n) = _
    rw [List.lookup_cons, hb, decide_eq_true h2, if_pos h2]
    exact eqv_int
  by_cases h3 : w = "swap"
  · rw [List.lookup_cons, hb, decide_eq_false h1, if_neg h1, if_neg h2, if_pos h3]
    show PyData.eqv (match List.lookup w [("store", 3), ("swap", 3), ("fence", 1)] with
      | some i => .int i
      | none => .none) (.int n) = _
    rw [List.lookup_cons, hb, decide_eq_false h2]
    show PyData.eqv (match List.lookup w [("swap", 3), ("fence", 1)] with
      | some i => .int i
      | none => .none) (.int n) = _
    rw [List.lookup_cons, hb, decide_eq_true h3]
    exact eqv_int
  rw [List.lookup_cons, hb, decide_eq_false h1, if_neg h1, if_neg h2, if_neg h3]
  show PyData.eqv (match List.lookup w [("store", 3), ("swap", 3), ("fence", 1)] with
    | some i => .int i
    | none => .none) (.int n) = _
  rw [List.lookup_cons, hb, decide_eq_false h2]
  show PyData.eqv (match List.lookup w [("swap", 3), ("fence", 1)] with
    | some i => .int i
    | none => .none) (.int n) = _
  rw [List.lookup_cons, hb, decide_eq_false h3]
  show PyData.eqv (match List.lookup w [("fence", 1)] with
    | some i => .int i
    | none => .none) (.int n) = _
  rw [List.lookup_cons, hb]
  by_cases h4 : w = "fence"
  · rw [decide_eq_true h4, if_pos h4]
    exact eqv_int
  · rw [decide_eq_false h4, if_neg h4]
    show PyData.eqv .none (.int n) = _
    rw [eqv_ni, decide_eq_false (by omega)]
theorem arW1 {w : Str} : arW w = 1 ↔ w = "fence" := by
  unfold arW
  obtain ⟨a, b, c, d, e, f⟩ := ne_words
  constructor
  · intro h
    split at h
    · omega
    · split at h
      · omega
      · split at h
        · omega
        · split at h
          · assumption
          · omega
  · rintro rfl
    rw [if_neg d, if_neg e, if_neg f, if_pos rfl]
theorem arW2 {w : Str} : arW w = 2 ↔ w = "load" := by
  unfold arW
  constructor
  · intro h
    split at h
    · assumption
    · split at h
      · omega
      · split at h
        · omega
        · split at h <;> omega
  · rintro rfl
    rw [if_pos rfl]
theorem arW3 {w : Str} : arW w = 3 ↔ w = "store" ∨ w = "swap" := by
  unfold arW
  obtain ⟨a, b, c, d, e, f⟩ := ne_words
  constructor
  · intro h
    split at h
    · omega
    · split at h
      · exact .inl (by assumption)
      · split at h
        · exact .inr (by assumption)
        · split at h <;> omega
  · rintro (rfl | rfl)
    · rw [if_neg a, if_pos rfl]
    · rw [if_neg b, if_neg c, if_pos rfl]
theorem arW4 (w : Str) : arW w ≤ 3 := by
  unfold arW
  split
  · omega
  · split
    · omega
    · split
      · omega
      · split <;> omega
theorem ifb_look {w : Str} {n : Int} (hn : 1 ≤ n) {A B : Prop} (h1 : arW w ≠ n → A) (h2 : arW w = n → B) : ifb (tru (.bool (!PyData.eqv (lookI tab_PARTS w) (.int n)))) A B := by
  show ifb (!PyData.eqv (lookI tab_PARTS w) (.int n)) A B
  rw [eqv_look w n hn]
  by_cases h : arW w = n
  · rw [decide_eq_true h]
    exact h2 h
  · rw [decide_eq_false h]
    exact h1 h
theorem dep_look (w : Str) : (lookI tab_PARTS w).depth ≤ 64 := by
  unfold lookI
  split
  · exact dep_int
  · exact dep_none
theorem isI_len {i : Ins} (h : isI i = true) : i.2.length ≤ 2 := by
  obtain ⟨w, ns⟩ := i
  rcases ns with _ | ⟨a, _ | ⟨b, _ | ⟨c, r⟩⟩⟩
  · exact Nat.zero_le _
  · show 1 ≤ 2
    decide
  · exact Nat.le_refl 2
  · cases h
theorem mem_cut {α : Type} {xs : List α} {lo hi : Option Int} {x : α} (h : x ∈ SV.cutD xs lo hi) : x ∈ xs := by
  unfold SV.cutD at h
  exact List.mem_of_mem_drop (List.mem_of_mem_take h)
theorem ifb_both {k : Bool} {A B P : Prop} (hp : P) (h1 : k = true → P → A) (h2 : k = false → P → B) : ifb k A B := ifb_of (fun e => h1 e hp) fun e => h2 e hp
theorem flat1 (x : PyData) : ∀ n : Nat, (List.replicate n [x]).flatten = List.replicate n x
  | 0 => rfl
  | n + 1 => by rw [List.replicate_succ, List.flatten_cons, flat1 x n]; rfl
theorem isI_load {a : Int} (h : 0 ≤ a ∧ a < 4) : isI ("load", [a]) = true := by
  show (decide (("load" : Str) = "load") && decide (0 ≤ a ∧ a < 4)) = true
  rw [decide_eq_true rfl, decide_eq_true h]
  rfl
theorem isI_store {a b : Int} (h : 0 ≤ a ∧ a < 4) (h2 : 1 ≤ b ∧ b ≤ 99) : isI ("store", [a, b]) = true := by
  show ((decide (("store" : Str) = "store") || decide (("store" : Str) = "swap")) && decide (0 ≤ a ∧ a < 4) && decide (1 ≤ b ∧ b ≤ 99)) = true
  rw [decide_eq_true rfl, decide_eq_true h, decide_eq_true h2]
  rfl
theorem isI_swap {a b : Int} (h : 0 ≤ a ∧ a < 4) (h2 : 1 ≤ b ∧ b ≤ 99) : isI ("swap", [a, b]) = true := by
  show ((decide (("swap" : Str) = "store") || decide (("swap" : Str) = "swap")) && decide (0 ≤ a ∧ a < 4) && decide (1 ≤ b ∧ b ≤ 99)) = true
  rw [decide_eq_true (show ("swap" : Str) = "swap" from rfl), Bool.or_true, decide_eq_true h, decide_eq_true h2]
  rfl
theorem isI_fence : isI ("fence", []) = true := by
  show decide (("fence" : Str) = "fence") = true
  exact decide_eq_true rfl
theorem inD_words (w : Str) : inD (.str w) [.str "store", .str "swap"] = (decide (w = "store") || decide (w = "swap")) := by
  show (PyData.eqv (.str "store") (.str w) || (PyData.eqv (.str "swap") (.str w) || false)) = _
  rw [eqv_str, eqv_str, Bool.or_false, decide_eq_decide.mpr (show ("store" : Str) = w ↔ w = "store" from ⟨Eq.symm, Eq.symm⟩), decide_eq_decide.mpr (show ("swap" : Str) = w ↔ w = "swap" from ⟨Eq.symm, Eq.symm⟩)]
theorem inD_lines (a : Int) : inD (.int a) [.int 0, .int 1, .int 2, .int 3] = decide (0 ≤ a ∧ a < 4) := by
  show (PyData.eqv (.int 0) (.int a) || (PyData.eqv (.int 1) (.int a) || (PyData.eqv (.int 2) (.int a) || (PyData.eqv (.int 3) (.int a) || false)))) = _
  rw [eqv_int, eqv_int, eqv_int, eqv_int]
  rw [Bool.eq_iff_iff]
  simp
  omega
theorem inD_range (n lo hi : Int) : inD (.int n) (rangeD lo hi) = decide (lo ≤ n ∧ n < hi) := by
  unfold inD rangeD
  rw [Bool.eq_iff_iff, List.any_eq_true, decide_eq_true_eq]
  constructor
  · rintro ⟨x, mx, hx⟩
    obtain ⟨i, mi, rfl⟩ := List.mem_map.mp mx
    rw [eqv_int, decide_eq_true_eq] at hx
    have := List.mem_range.mp mi
    omega
  · rintro ⟨h1, h2⟩
    refine ⟨.int n, List.mem_map.mpr ⟨(n - lo).toNat, List.mem_range.mpr (by omega), ?_⟩, by rw [eqv_int]; exact decide_eq_true rfl⟩
    congr 1
    omega
theorem shape_of {p : List (List Ins)} (h : isP p = true) : Shape p := by
  unfold isP at h
  simp only [Bool.and_eq_true, decide_eq_true_eq] at h
  obtain ⟨⟨⟨_, h2⟩, h3⟩, _⟩ := h
  refine ⟨by omega, fun c m => ?_⟩
  have := List.all_eq_true.mp h3 c m
  have : c.length ≤ 24 := by simpa using this
  omega
section
variable {P : Program} {w : World} {K : PySem.W.Frag} {mg : Str → Option Value} {base : Heap}
/-! ### is_instruction: slots 0 one -/
theorem ok_isinstruction (T : Facts P w K mg) : FnG P w K mg base 1 T.a_isinstruction T.d_isinstruction ["one"] sp_isinstruction := by
  refine fun_okG T.F_isinstruction sc_isinstruction len_isinstruction fun cdv A outer s H Ex vs ss Q E hr hg lv h => ?_
  have hu := hr.units
  have hu5 : (A.deeper (envOfC "is_instruction" (defScope s_isinstruction) s.heap.objs.size T.a_isinstruction cdv)).units + 65 < cLine := by have := hr.un; omega
  have np : PassesOwn (model P w) (A.deeper (envOfC "is_instruction" (defScope s_isinstruction) s.heap.objs.size T.a_isinstruction cdv)) (envOfC "is_instruction" (defScope s_isinstruction) s.heap.objs.size T.a_isinstruction cdv) (cxG P w K mg base ["one"] "is_instruction" (defScope s_isinstruction) T.a_isinstruction cdv A outer s H Ex).xe := PassesOwn.leaving
  obtain ⟨⟨w, ns⟩, rfl, q⟩ := h
  refine ⟨_, (jss_cons (js_if (jt_cmp (o_ne hu) (je_dget (by rfl) T.g_PARTS T.d_PARTS (je_ix o_ix (je_var 0) je_int)) (je_callB c_len (by rfl) T.m_len boot_len (jr_one (je_var 0)))) (jss_one (js_ret je_bl)) jss_nil)
    (jss_cons (js_if (jw_and (jt_cmp o_gt (je_callB c_len (by rfl) T.m_len boot_len (jr_one (je_var 0))) je_int) (jw_and1 (jt_not (jt_chain o_le o_lt je_int (je_ix o_ix (je_var 0) je_int) (je_glob (v := V.int 4) (d := .int 4) (by rfl) T.g_MANY_LINES ⟨_, rfl⟩ fun _ => .int _))))).jt (jss_one (js_ret je_bl)) jss_nil)
    (jss_one (js_ret (je_or (je_cmp o_lt (je_callB c_len (by rfl) T.m_len boot_len (jr_one (je_var 0))) je_int) (je_one (je_chain o_le o_le je_int (je_ix o_ix (je_var 0) je_int) (je_glob (v := V.int 99) (d := .int 99) (by rfl) T.g_MOST_VALUE ⟨_, rfl⟩ fun _ => .int _)))))))), ?_⟩
  rcases ns with _ | ⟨a, _ | ⟨b, _ | ⟨c, r⟩⟩⟩
  · refine need_of rfl (And.intro ⟨dep_look w, dep_int⟩ (ifb_look (n := 1) (by decide) (fun h => ?_) fun h => ?_))
    · have e : isI (w, []) = false := decide_eq_false fun z => h (arW1.mpr z)
      rw [e] at q
      exact q
    · have e : isI (w, []) = true := decide_eq_true (arW1.mp h)
      rw [e] at q
      exact q
  · refine need_of rfl (And.intro ⟨dep_look w, dep_int⟩ (ifb_look (n := 2) (by decide) (fun h => ?_) fun h => ?_))
    · have e : isI (w, [a]) = false := by
        show (decide (w = "load") && _) = false
        rw [decide_eq_false fun z => h (arW2.mpr z)]
        rfl
      rw [e] at q
      exact q
    · have e : isI (w, [a]) = decide (0 ≤ a ∧ a < 4) := by
        show (decide (w = "load") && _) = _
        rw [decide_eq_true (arW2.mp h)]
        rfl
      rw [e] at q
      refine need_of rfl (ifb_dec (fun h1 => ?_) fun h1 => ?_)
      · show ifb (!(decide (a < 4))) _ _
        by_cases h2 : a < 4
        · rw [decide_eq_true ⟨h1, h2⟩] at q
          rw [decide_eq_true h2]
          exact q
        · rw [decide_eq_false fun z => h2 z.2] at q
          rw [decide_eq_false h2]
          exact q
      · rw [decide_eq_false fun z => h1 z.1] at q
        exact q
  · refine need_of rfl (And.intro ⟨dep_look w, dep_int⟩ (ifb_look (n := 3) (by decide) (fun h => ?_) fun h => ?_))
    · have e : isI (w, [a, b]) = false := by
        show ((decide (w = "store") || decide (w = "swap")) && _ && _) = false
        rw [decide_eq_false fun z => h (arW3.mpr (.inl z)), decide_eq_false fun z => h (arW3.mpr (.inr z))]
        rfl
      rw [e] at q
      exact q
    · have e : isI (w, [a, b]) = (decide (0 ≤ a ∧ a < 4) && decide (1 ≤ b ∧ b ≤ 99)) := by
        show ((decide (w = "store") || decide (w = "swap")) && _ && _) = _
        rcases arW3.mp h with z | z
        · rw [decide_eq_true z]
          rfl
        · rw [decide_eq_true z, Bool.or_true]
          rfl
      rw [e] at q
      refine need_of rfl (ifb_dec (fun h1 => ?_) fun h1 => ?_)
      · show ifb (!(decide (a < 4))) _ _
        by_cases h2 : a < 4
        · rw [decide_eq_true ⟨h1, h2⟩] at q
          rw [decide_eq_true h2]
          refine need_of rfl (ifb_dec (fun h3 => ?_) fun h3 => ?_)
          · have e2 : decide (1 ≤ b ∧ b ≤ 99) = decide (b ≤ 99) := decide_eq_decide.mpr ⟨fun z => z.2, fun z => ⟨h3, z⟩⟩
            rw [e2] at q
            exact q
          · rw [decide_eq_false fun z => h3 z.1] at q
            exact q
        · rw [decide_eq_false fun z => h2 z.2] at q
          rw [decide_eq_false h2]
          exact q
      · rw [decide_eq_false fun z => h1 z.1] at q
        exact q
  · have l : ((PyData.str w :: List.map PyData.int (a :: b :: c :: r)).length : Int) ≥ 4 := by simp; omega
    refine need_of (x := .str w) (atI_nat (j := 0) rfl) ?_
    refine And.intro ⟨dep_look w, dep_int⟩ ?_
    refine ifb_look (n := ((PyData.str w :: List.map PyData.int (a :: b :: c :: r)).length : Int)) (by omega) (fun h => q) fun h => ?_
    have := arW4 w
    have h' : arW w = ((PyData.str w :: List.map PyData.int (a :: b :: c :: r)).length : Int) := h
    omega
/-! ### is_program: slots 0 program, 1 core, 2 one -/
theorem ok_isprogram (T : Facts P w K mg) : FnG P w K mg base 2 T.a_isprogram T.d_isprogram ["program"] sp_isprogram := by
  have G_isinstruction := ok_isinstruction (base := base) T
  refine fun_okG T.F_isprogram sc_isprogram len_isprogram fun cdv A outer s H Ex vs ss Q E hr hg lv h => ?_
  have hu := hr.units
  have hu5 : (A.deeper (envOfC "is_program" (defScope s_isprogram) s.heap.objs.size T.a_isprogram cdv)).units + 65 < cLine := by have := hr.un; omega
  have np : PassesOwn (model P w) (A.deeper (envOfC "is_program" (defScope s_isprogram) s.heap.objs.size T.a_isprogram cdv)) (envOfC "is_program" (defScope s_isprogram) s.heap.objs.size T.a_isprogram cdv) (cxG P w K mg base ["program", "core", "one"] "is_program" (defScope s_isprogram) T.a_isprogram cdv A outer s H Ex).xe := PassesOwn.leaving
  obtain ⟨p, rfl, sh, q⟩ := h
  refine ⟨_, (jss_cons (js_if (jw_or (jt_not (jt_chain o_le o_le je_int (je_callB c_len (by rfl) T.m_len boot_len (jr_one (je_var 0))) (je_glob (v := V.int 12) (d := .int 12) (by rfl) T.g_MOST_CORES ⟨_, rfl⟩ fun _ => .int _))) (jw_or1 (jt_val (je_callB (c_any rfl) (by rfl) T.m_any boot_any (jr_one (je_lc rfl sc_isprogram.nd (ji_seq (je_var 0)) (blkOk_by (own := [("core", 1)]) (by rfl)) (by decide) (fun _ _ _ _ _ => (jg_name (i := 1) sc_isprogram.nd rfl (by first | exact .inl rfl | exact .inr rfl))) (fun _ _ _ _ _ => jq_nil) (fun _ _ _ _ _ => (je_cmp o_gt (je_callB c_len (by rfl) T.m_len boot_len (jr_one (je_var 1))) (je_glob (v := V.int 24) (d := .int 24) (by rfl) T.g_MOST_INSTRUCTIONS ⟨_, rfl⟩ fun _ => .int _))))))))).jt (jss_one (js_ret je_bl)) jss_nil)
    (jss_one (js_ret (je_callB (c_all rfl) (by rfl) T.m_all boot_all (jr_one (je_lc2 (vs1 := [2]) rfl sc_isprogram.nd (ji_seq (je_var 0)) (blkOk_by (own := [("core", 1), ("one", 2)]) (by rfl)) (by decide) (by decide) (by decide) (fun _ _ _ _ _ => (jg_name (i := 1) sc_isprogram.nd rfl (by first | exact .inl rfl | exact .inr rfl))) (fun _ _ _ _ _ => jq_nil) (fun _ _ _ _ _ => (ji_seq (je_var 1))) (fun _ _ _ _ _ => (jg_name (i := 2) sc_isprogram.nd rfl (by first | exact .inl rfl | exact .inr rfl))) (fun _ _ _ _ _ => jq_nil) (fun _ _ _ _ _ => (je_call G_isinstruction (hr.mono (by decide)) hg (by rfl) T.g_isinstruction T.F_isinstruction.kp T.b_isinstruction (jc_val (je_var 2) jc_nil))))))))), ?_⟩
  have e0 : isP p = (decide (1 ≤ p.length) && decide (p.length ≤ 12) && p.all (fun c => decide (c.length ≤ 24)) && p.all (fun c => c.all isI)) := rfl
  have hl : ((p.map CD).length : Int) = p.length := by simp
  refine ifb_dec (fun h1 => ?_) fun h1 => ?_
  · have h1' : (1 : Int) ≤ ((p.map CD).length : Int) := h1
    have z1 : 1 ≤ p.length := by omega
    rw [decide_eq_true z1] at e0
    show ifb (!(decide (((p.map CD).length : Int) ≤ 12))) _ _
    by_cases h2 : ((p.map CD).length : Int) ≤ 12
    · have z2 : p.length ≤ 12 := by omega
      rw [decide_eq_true z2] at e0
      rw [decide_eq_true h2]
      show lcT _ _ _ _ (p.map CD) _ _ _
      refine lc_pure CD (fun c : List Ins => .bool (decide ((((c.map I1).length : Nat) : Int) > 24))) (σ0 := [some (.val (PD p)), none, none]) (by simp) rfl p (by omega) (fun c _ Q2 hq => hq) ?_
      refine need_of (boolsOf_mapF _ _) ?_
      refine ifb_of (fun h3 => ?_) fun h3 => ?_
      · have e1 : p.all (fun c => decide (c.length ≤ 24)) = false := by
          have h3' : (p.map fun c : List Ins => decide ((((c.map I1).length : Nat) : Int) > 24)).any id = true := h3
          obtain ⟨b, mb, hb⟩ := List.any_eq_true.mp h3'
          obtain ⟨c, mc, rfl⟩ := List.mem_map.mp mb
          have hb' : (((c.map I1).length : Nat) : Int) > 24 := by simpa using hb
          rw [List.length_map] at hb'
          refine Bool.eq_false_iff.mpr fun z => ?_
          have := List.all_eq_true.mp z c mc
          have : c.length ≤ 24 := by simpa using this
          omega
        rw [e1] at e0
        rw [e0] at q
        exact q
      · have e1 : p.all (fun c => decide (c.length ≤ 24)) = true := by
          have h3' : (p.map fun c : List Ins => decide ((((c.map I1).length : Nat) : Int) > 24)).any id = false := h3
          refine List.all_eq_true.mpr fun c mc => ?_
          have h4 := List.any_eq_false.mp h3' _ (List.mem_map.mpr ⟨c, mc, rfl⟩)
          have h5 : ¬ (((c.map I1).length : Nat) : Int) > 24 := by simpa using h4
          rw [List.length_map] at h5
          exact decide_eq_true (by omega)
        rw [e1] at e0
        have fl : ∀ l : List (List Ins), (l.all fun c => decide (c.length ≤ 24)) = true → (l.flatMap id).length ≤ 24 * l.length := fun l => by
          induction l with
          | nil => intro _; simp
          | cons c r ih =>
            intro h
            rw [List.all_cons, Bool.and_eq_true] at h
            have := ih h.2
            have h1 : c.length ≤ 24 := by simpa using h.1
            rw [List.flatMap_cons, List.length_append, List.length_cons]
            show c.length + _ ≤ _
            omega
        have := fl p e1
        show lcTG _ _ _ (p.map CD) _ _ _
        refine lc2_pure CD id I1 (fun i => .bool (isI i)) (σ0 := [some (.val (PD p)), none, none]) (by simp) (by simp) (by decide) rfl rfl p (by omega) (fun c _ Q2 hq => hq) (fun c _ i _ Q2 hq => And.intro rfl ⟨i, rfl, hq⟩) ?_
        refine need_of (boolsOf_mapF _ _) ?_
        have e2 : ((p.flatMap id).map isI).all id = p.all (fun c => c.all isI) := by
          have ee : ∀ l : List (List Ins), ((l.flatMap id).map isI).all id = l.all (fun c => c.all isI) := fun l => by
            induction l with
            | nil => rfl
            | cons c r ih =>
              rw [List.flatMap_cons, List.map_append, List.all_append, ih, List.all_cons, List.all_map]
              rfl
          exact ee p
        have e3 : isP p = ((p.flatMap id).map isI).all id := by rw [e0, e2]; simp
        rw [e3] at q
        exact q
    · have z2 : ¬ p.length ≤ 12 := by omega
      rw [decide_eq_false z2] at e0
      rw [decide_eq_false h2]
      have e1 : isP p = false := by rw [e0]; simp
      rw [e1] at q
      exact q
  · have h1' : ¬ (1 : Int) ≤ ((p.map CD).length : Int) := h1
    have e1 : isP p = false := by
      rw [e0, decide_eq_false (show ¬ 1 ≤ p.length by omega)]
      simp
    rw [e1] at q
    exact q
/-! ### check_program: slots 0 program -/
theorem ok_checkprogram (T : Facts P w K mg) : FnG P w K mg base 3 T.a_checkprogram T.d_checkprogram ["program"] (sp_checkprogram T.A_NotProgram) := by
  have G_isprogram := ok_isprogram (base := base) T
  refine fun_okG T.F_checkprogram sc_checkprogram len_checkprogram fun cdv A outer s H Ex vs ss Q E hr hg lv h => ?_
  have hu := hr.units
  have hu5 : (A.deeper (envOfC "check_program" (defScope s_checkprogram) s.heap.objs.size T.a_checkprogram cdv)).units + 65 < cLine := by have := hr.un; omega
  have np : PassesOwn (model P w) (A.deeper (envOfC "check_program" (defScope s_checkprogram) s.heap.objs.size T.a_checkprogram cdv)) (envOfC "check_program" (defScope s_checkprogram) s.heap.objs.size T.a_checkprogram cdv) (cxG P w K mg base ["program"] "check_program" (defScope s_checkprogram) T.a_checkprogram cdv A outer s H Ex).xe := PassesOwn.leaving
  obtain ⟨p, rfl, sh, q1, q2⟩ := h
  refine ⟨_, (jss_one (js_if (jt_not (jt_val (je_call G_isprogram (hr.mono (by decide)) hg (by rfl) T.g_isprogram T.F_isprogram.kp T.b_isprogram (jc_val (je_var 0) jc_nil)))) (jss_one (js_raise rfl T.x_NotProgram (by rfl))) jss_nil)), ?_⟩
  refine And.intro rfl ⟨p, rfl, sh, ?_⟩
  refine ifb_of (fun h => ?_) fun h => ?_
  · have h' : (!isP p) = true := h
    exact q2 (by simpa using h')
  · have h' : (!isP p) = false := h
    exact q1 (by simpa using h')
/-! ### _law_asked: slots 0 program, 1 error, 2 kinds -/
theorem ok_lawasked (T : Facts P w K mg) : FnG P w K mg base 4 T.a_lawasked T.d_lawasked ["program"] sp_lawasked := by
  have G_checkprogram := ok_checkprogram (base := base) T
  refine fun_okG T.F_lawasked sc_lawasked len_lawasked fun cdv A outer s H Ex vs ss Q E hr hg lv h => ?_
  have hu := hr.units
  have hu5 : (A.deeper (envOfC "_law_asked" (defScope s_lawasked) s.heap.objs.size T.a_lawasked cdv)).units + 65 < cLine := by have := hr.un; omega
  have np : PassesOwn (model P w) (A.deeper (envOfC "_law_asked" (defScope s_lawasked) s.heap.objs.size T.a_lawasked cdv)) (envOfC "_law_asked" (defScope s_lawasked) s.heap.objs.size T.a_lawasked cdv) (cxG P w K mg base ["program", "error", "kinds"] "_law_asked" (defScope s_lawasked) T.a_lawasked cdv A outer s H Ex).xe := PassesOwn.leaving
  obtain ⟨p, rfl, sh, q⟩ := h
  refine ⟨_, (jss_one (js_tryAs (i := 1) (Pc := ExcC K) rfl rfl sc_lawasked.nd rfl rfl (arV_none (by rw [lv]; decide)) ⟨by rfl, by decide, .inl T.g_CoheirError⟩ (fun pn xe np => (jss_one (js_ret (je_call G_checkprogram (hr.mono (by decide)) hg (by rfl) T.g_checkprogram T.F_checkprogram.kp T.b_checkprogram (jc_val (je_var 0) jc_nil))))) (fun C a oe pn hP hz hfl => (jss_cons (js_setv (i := 2) (je_lst (ja_cons (je_isE 1 hP hz hfl (by rfl) T.m_isinstance (by rfl) T.g_NotProgram) (ja_cons (je_isE 1 hP hz hfl (by rfl) T.m_isinstance (by rfl) T.g_NotTable) (ja_cons (je_isE 1 hP hz hfl (by rfl) T.m_isinstance (by rfl) T.g_BadNumber) (ja_cons (je_isE 1 hP hz hfl (by rfl) T.m_isinstance (by rfl) T.g_NotObservation) ja_nil))))) sc_lawasked.nd rfl (by first | exact .inl rfl | exact .inr rfl))
    (jss_one (js_ret (je_if (jt_cmp (o_eq hu) (je_var 2) (je_lst (ja_cons je_bl (ja_cons je_bl (ja_cons je_bl (ja_cons je_bl ja_nil)))))) (je_tup (ja_cons je_str ja_nil)) (je_tup (ja_cons je_str ja_nil))))))))), ?_⟩
  refine And.intro rfl ⟨p, rfl, sh, fun h => ?_, fun h => ?_⟩
  · rw [if_pos h] at q
    exact q
  · rw [if_neg (by rw [h]; decide)] at q
    refine need_of T.exm_NotProgram_CoheirError ⟨_, rfl, rfl, T.e_NotProgram, fun a => ?_⟩
    refine And.intro rfl (need_of T.kit_NotProgram_NotProgram (And.intro rfl (need_of T.kit_NotProgram_NotTable (And.intro rfl (need_of T.kit_NotProgram_BadNumber (And.intro rfl (need_of T.kit_NotProgram_NotObservation ?_)))))))
    refine And.intro (room1 (by decide)) ?_
    refine And.intro (room1 (by decide)) (And.intro ⟨by decide +kernel, by decide +kernel⟩ (ifb_t (by decide +kernel) ?_))
    exact And.intro (room1 (by decide)) q
/-! ### _law_is_one: slots 0 one -/
theorem ok_lawisone (T : Facts P w K mg) : FnG P w K mg base 1 T.a_lawisone T.d_lawisone ["one"] sp_lawisone := by
  refine fun_okG T.F_lawisone sc_lawisone len_lawisone fun cdv A outer s H Ex vs ss Q E hr hg lv h => ?_
  have hu := hr.units
  have hu5 : (A.deeper (envOfC "_law_is_one" (defScope s_lawisone) s.heap.objs.size T.a_lawisone cdv)).units + 65 < cLine := by have := hr.un; omega
  have np : PassesOwn (model P w) (A.deeper (envOfC "_law_is_one" (defScope s_lawisone) s.heap.objs.size T.a_lawisone cdv)) (envOfC "_law_is_one" (defScope s_lawisone) s.heap.objs.size T.a_lawisone cdv) (cxG P w K mg base ["one"] "_law_is_one" (defScope s_lawisone) T.a_lawisone cdv A outer s H Ex).xe := PassesOwn.leaving
  obtain ⟨⟨w, ns⟩, rfl, q⟩ := h
  refine ⟨_, (jss_cons (js_if (jt_cmp (o_eq hu) (je_ix o_ix (je_var 0) je_int) je_str) (jss_one (js_ret (je_cmp (o_eq hu) (je_callB c_len (by rfl) T.m_len boot_len (jr_one (je_var 0))) je_int))) jss_nil)
    (jss_cons (js_if (jt_cmp (o_eq hu) (je_ix o_ix (je_var 0) je_int) je_str) (jss_one (js_ret (je_and (je_cmp (o_eq hu) (je_callB c_len (by rfl) T.m_len boot_len (jr_one (je_var 0))) je_int) (je_one (je_cmp (o_in hu5) (je_ix o_ix (je_var 0) je_int) (je_lst (ja_cons je_int (ja_cons je_int (ja_cons je_int (ja_cons je_int ja_nil)))))))))) jss_nil)
    (jss_one (js_ret (je_and (je_cmp (o_in hu5) (je_ix o_ix (je_var 0) je_int) (je_lst (ja_cons je_str (ja_cons je_str ja_nil)))) (je_and (je_cmp (o_eq hu) (je_callB c_len (by rfl) T.m_len boot_len (jr_one (je_var 0))) je_int) (je_and (je_cmp (o_in hu5) (je_ix o_ix (je_var 0) je_int) (je_lst (ja_cons je_int (ja_cons je_int (ja_cons je_int (ja_cons je_int ja_nil)))))) (je_one (je_cmp (o_in hu5) (je_ix o_ix (je_var 0) je_int) (je_lrng rfl (by rfl) T.m_list boot_list (by rfl) T.m_range boot_range je_int je_int)))))))))), ?_⟩
  have fe := ne_words
  rcases ns with _ | ⟨a, _ | ⟨b, _ | ⟨c, r⟩⟩⟩
  · refine need_of rfl (And.intro ⟨dep_str, dep_str⟩ (ifb_eqs (fun h1 => ?_) fun h1 => ?_))
    · rw [show isI (w, []) = true from decide_eq_true h1] at q
      refine And.intro ⟨dep_int, dep_int⟩ ?_
      show Q (.val (.bool (PyData.eqv (.int 1) (.int 1)))) _
      rw [eqv_int]
      exact q
    · rw [show isI (w, []) = false from decide_eq_false h1] at q
      refine need_of rfl (And.intro ⟨dep_str, dep_str⟩ (ifb_eqs (fun h2 => ?_) fun h2 => ?_))
      · refine And.intro ⟨dep_int, dep_int⟩ ?_
        show ifb (PyData.eqv (.int 1) (.int 2)) _ (Q (.val (.bool (PyData.eqv (.int 1) (.int 2)))) _)
        rw [eqv_int]
        exact q
      · refine need_of rfl (And.intro (room1 (by show 2 ≤ _; decide)) (And.intro dep_str ?_))
        show ifb (inD (.str w) [.str "store", .str "swap"]) _ (Q (.val (.bool (inD (.str w) [.str "store", .str "swap"]))) _)
        refine ifb_of (fun h => ?_) fun h => ?_
        · refine And.intro ⟨dep_int, dep_int⟩ ?_
          show ifb (PyData.eqv (.int 1) (.int 3)) _ (Q (.val (.bool (PyData.eqv (.int 1) (.int 3)))) _)
          rw [eqv_int]
          exact q
        · rw [h]
          exact q
  · refine need_of rfl (And.intro ⟨dep_str, dep_str⟩ (ifb_eqs (fun h1 => ?_) fun h1 => ?_))
    · have e : isI (w, [a]) = false := by
        subst h1
        show (decide (("fence" : Str) = "load") && decide (0 ≤ a ∧ a < 4)) = false
        rw [decide_eq_false fe.2.2.2.1]
        rfl
      rw [e] at q
      refine And.intro ⟨dep_int, dep_int⟩ ?_
      show Q (.val (.bool (PyData.eqv (.int 2) (.int 1)))) _
      rw [eqv_int]
      exact q
    · refine need_of rfl (And.intro ⟨dep_str, dep_str⟩ (ifb_eqs (fun h2 => ?_) fun h2 => ?_))
      · have e : isI (w, [a]) = decide (0 ≤ a ∧ a < 4) := by
          show (decide (w = "load") && _) = _
          rw [decide_eq_true h2]
          rfl
        rw [e] at q
        refine And.intro ⟨dep_int, dep_int⟩ ?_
        show ifb (PyData.eqv (.int 2) (.int 2)) _ _
        rw [eqv_int]
        refine need_of rfl (And.intro (room1 (by show 4 ≤ _; decide)) (And.intro dep_int ?_))
        show Q (.val (.bool (inD (.int a) [.int 0, .int 1, .int 2, .int 3]))) _
        rw [inD_lines]
        exact q
      · have e : isI (w, [a]) = false := by
          show (decide (w = "load") && _) = false
          rw [decide_eq_false h2]
          rfl
        rw [e] at q
        refine need_of rfl (And.intro (room1 (by show 2 ≤ _; decide)) (And.intro dep_str ?_))
        show ifb (inD (.str w) [.str "store", .str "swap"]) _ (Q (.val (.bool (inD (.str w) [.str "store", .str "swap"]))) _)
        refine ifb_of (fun h => ?_) fun h => ?_
        · refine And.intro ⟨dep_int, dep_int⟩ ?_
          show ifb (PyData.eqv (.int 2) (.int 3)) _ (Q (.val (.bool (PyData.eqv (.int 2) (.int 3)))) _)
          rw [eqv_int]
          exact q
        · rw [h]
          exact q
  · have e0 : isI (w, [a, b]) = ((decide (w = "store") || decide (w = "swap")) && decide (0 ≤ a ∧ a < 4) && decide (1 ≤ b ∧ b ≤ 99)) := rfl
    refine need_of rfl (And.intro ⟨dep_str, dep_str⟩ (ifb_eqs (fun h1 => ?_) fun h1 => ?_))
    · rw [decide_eq_false (show ¬ w = "store" from fun z => fe.2.2.2.2.1 (h1.symm.trans z)), decide_eq_false (show ¬ w = "swap" from fun z => fe.2.2.2.2.2 (h1.symm.trans z))] at e0
      rw [show isI (w, [a, b]) = false from e0] at q
      refine And.intro ⟨dep_int, dep_int⟩ ?_
      show Q (.val (.bool (PyData.eqv (.int 3) (.int 1)))) _
      rw [eqv_int]
      exact q
    · refine need_of rfl (And.intro ⟨dep_str, dep_str⟩ (ifb_eqs (fun h2 => ?_) fun h2 => ?_))
      · rw [decide_eq_false (show ¬ w = "store" from fun z => fe.1 (z.symm.trans h2)), decide_eq_false (show ¬ w = "swap" from fun z => fe.2.1 (z.symm.trans h2))] at e0
        rw [show isI (w, [a, b]) = false from e0] at q
        refine And.intro ⟨dep_int, dep_int⟩ ?_
        show ifb (PyData.eqv (.int 3) (.int 2)) _ (Q (.val (.bool (PyData.eqv (.int 3) (.int 2)))) _)
        rw [eqv_int]
        exact q
      · refine need_of rfl (And.intro (room1 (by show 2 ≤ _; decide)) (And.intro dep_str ?_))
        show ifb (inD (.str w) [.str "store", .str "swap"]) _ (Q (.val (.bool (inD (.str w) [.str "store", .str "swap"]))) _)
        rw [inD_words]
        rw [e0] at q
        refine ifb_of (fun h => ?_) fun h => ?_
        · rw [h] at q
          refine And.intro ⟨dep_int, dep_int⟩ ?_
          show ifb (PyData.eqv (.int 3) (.int 3)) _ _
          rw [eqv_int]
          refine need_of rfl (And.intro (room1 (by show 4 ≤ _; decide)) (And.intro dep_int ?_))
          show ifb (inD (.int a) [.int 0, .int 1, .int 2, .int 3]) _ (Q (.val (.bool (inD (.int a) [.int 0, .int 1, .int 2, .int 3]))) _)
          rw [inD_lines]
          refine ifb_of (fun h4 => ?_) fun h4 => ?_
          · rw [h4] at q
            refine need_of rfl (And.intro ⟨⟨by decide, by decide⟩, by decide, by decide⟩ (And.intro dep_int ?_))
            show Q (.val (.bool (inD (.int b) (rangeD 1 100)))) _
            rw [inD_range, decide_eq_decide.mpr (show (1 ≤ b ∧ b < 100) ↔ (1 ≤ b ∧ b ≤ 99) from ⟨fun z => ⟨z.1, by omega⟩, fun z => ⟨z.1, by omega⟩⟩)]
            exact q
          · rw [h4] at q
            rw [h4]
            exact q
        · rw [h] at q
          rw [h]
          exact q
  · have l : ((PyData.str w :: List.map PyData.int (a :: b :: c :: r)).length : Int) ≥ 4 := by simp; omega
    have ne : ∀ n : Int, n < 4 → PyData.eqv (.int ((PyData.str w :: List.map PyData.int (a :: b :: c :: r)).length : Int)) (.int n) = false := fun n hn => by
      rw [eqv_int, decide_eq_false (by omega)]
    refine need_of (x := .str w) (atI_nat (j := 0) rfl) (And.intro ⟨dep_str, dep_str⟩ (ifb_eqs (fun h1 => ?_) fun h1 => ?_))
    · refine And.intro ⟨dep_int, dep_int⟩ ?_
      show Q (.val (.bool (PyData.eqv (.int ((PyData.str w :: List.map PyData.int (a :: b :: c :: r)).length : Int)) (.int 1)))) _
      rw [ne 1 (by decide)]
      exact q
    · refine need_of (x := .str w) (atI_nat (j := 0) rfl) (And.intro ⟨dep_str, dep_str⟩ (ifb_eqs (fun h2 => ?_) fun h2 => ?_))
      · refine And.intro ⟨dep_int, dep_int⟩ ?_
        show ifb (PyData.eqv (.int ((PyData.str w :: List.map PyData.int (a :: b :: c :: r)).length : Int)) (.int 2)) _ (Q (.val (.bool (PyData.eqv (.int ((PyData.str w :: List.map PyData.int (a :: b :: c :: r)).length : Int)) (.int 2)))) _)
        rw [ne 2 (by decide)]
        exact q
      · refine need_of (x := .str w) (atI_nat (j := 0) rfl) (And.intro (room1 (by show 2 ≤ _; decide)) (And.intro dep_str ?_))
        show ifb (inD (.str w) [.str "store", .str "swap"]) _ (Q (.val (.bool (inD (.str w) [.str "store", .str "swap"]))) _)
        refine ifb_of (fun h => ?_) fun h => ?_
        · refine And.intro ⟨dep_int, dep_int⟩ ?_
          show ifb (PyData.eqv (.int ((PyData.str w :: List.map PyData.int (a :: b :: c :: r)).length : Int)) (.int 3)) _ (Q (.val (.bool (PyData.eqv (.int ((PyData.str w :: List.map PyData.int (a :: b :: c :: r)).length : Int)) (.int 3)))) _)
          rw [ne 3 (by decide)]
          exact q
        · rw [h]
          exact q
/-! ### _law_is_program: slots 0 program, 1 core, 2 one -/
theorem ok_lawisprogram (T : Facts P w K mg) : FnG P w K mg base 2 T.a_lawisprogram T.d_lawisprogram ["program"] sp_lawisprogram := by
  have G_lawisone := ok_lawisone (base := base) T
  refine fun_okG T.F_lawisprogram sc_lawisprogram len_lawisprogram fun cdv A outer s H Ex vs ss Q E hr hg lv h => ?_
  have hu := hr.units
  have hu5 : (A.deeper (envOfC "_law_is_program" (defScope s_lawisprogram) s.heap.objs.size T.a_lawisprogram cdv)).units + 65 < cLine := by have := hr.un; omega
  have np : PassesOwn (model P w) (A.deeper (envOfC "_law_is_program" (defScope s_lawisprogram) s.heap.objs.size T.a_lawisprogram cdv)) (envOfC "_law_is_program" (defScope s_lawisprogram) s.heap.objs.size T.a_lawisprogram cdv) (cxG P w K mg base ["program", "core", "one"] "_law_is_program" (defScope s_lawisprogram) T.a_lawisprogram cdv A outer s H Ex).xe := PassesOwn.leaving
  obtain ⟨p, rfl, sh, q⟩ := h
  refine ⟨_, (jss_cons (js_if (jw_or (jt_cmp (o_notIn hu5) (je_callB c_len (by rfl) T.m_len boot_len (jr_one (je_var 0))) (je_lrng rfl (by rfl) T.m_list boot_list (by rfl) T.m_range boot_range je_int je_int)) (jw_or1 (jt_val (je_callB (c_any rfl) (by rfl) T.m_any boot_any (jr_one (je_lc rfl sc_lawisprogram.nd (ji_seq (je_var 0)) (blkOk_by (own := [("core", 1)]) (by rfl)) (by decide) (fun _ _ _ _ _ => (jg_name (i := 1) sc_lawisprogram.nd rfl (by first | exact .inl rfl | exact .inr rfl))) (fun _ _ _ _ _ => jq_nil) (fun _ _ _ _ _ => (je_cmp o_gt (je_callB c_len (by rfl) T.m_len boot_len (jr_one (je_var 1))) je_int)))))))).jt (jss_one (js_ret je_bl)) jss_nil)
    (jss_one (js_ret (je_callB (c_all rfl) (by rfl) T.m_all boot_all (jr_one (je_lc rfl sc_lawisprogram.nd (ji_seq (je_var 0)) (blkOk_by (own := [("core", 1)]) (by rfl)) (by decide) (fun _ _ _ _ _ => (jg_name (i := 1) sc_lawisprogram.nd rfl (by first | exact .inl rfl | exact .inr rfl))) (fun _ _ _ _ _ => jq_nil) (fun _ _ _ _ _ => (je_callB (c_all rfl) (by rfl) T.m_all boot_all (jr_one (je_lc rfl sc_lawisprogram.nd (ji_seq (je_var 1)) (blkOk_by (own := [("one", 2)]) (by rfl)) (by decide) (fun _ _ _ _ _ => (jg_name (i := 2) sc_lawisprogram.nd rfl (by first | exact .inl rfl | exact .inr rfl))) (fun _ _ _ _ _ => jq_nil) (fun _ _ _ _ _ => (je_call G_lawisone (hr.mono (by decide)) hg (by rfl) T.g_lawisone T.F_lawisone.kp T.b_lawisone (jc_val (je_var 2) jc_nil))))))))))))), ?_⟩
  have e0 : isP p = (decide (1 ≤ p.length) && decide (p.length ≤ 12) && p.all (fun c => decide (c.length ≤ 24)) && p.all (fun c => c.all isI)) := rfl
  have hl : ((p.map CD).length : Int) = p.length := by simp
  obtain ⟨s1, s2⟩ := sh
  refine And.intro ⟨⟨by decide, by decide⟩, by decide, by decide⟩ (And.intro dep_int ?_)
  show ifb (!(inD (.int ((p.map CD).length : Int)) (rangeD 1 13))) _ _
  rw [inD_range, hl]
  by_cases h1 : (1 : Int) ≤ (p.length : Int) ∧ (p.length : Int) < 13
  · rw [decide_eq_true h1]
    rw [decide_eq_true (show 1 ≤ p.length by omega), decide_eq_true (show p.length ≤ 12 by omega)] at e0
    show lcT _ _ _ _ (p.map CD) _ _ _
    refine lc_pure CD (fun c : List Ins => .bool (decide ((((c.map I1).length : Nat) : Int) > 24))) (σ0 := [some (.val (PD p)), none, none]) (by simp) rfl p (by omega) (fun c _ Q2 hq => hq) ?_
    refine need_of (boolsOf_mapF _ _) ?_
    refine ifb_of (fun h3 => ?_) fun h3 => ?_
    · have e1 : p.all (fun c => decide (c.length ≤ 24)) = false := by
        have h3' : (p.map fun c : List Ins => decide ((((c.map I1).length : Nat) : Int) > 24)).any id = true := h3
        obtain ⟨b, mb, hb⟩ := List.any_eq_true.mp h3'
        obtain ⟨c, mc, rfl⟩ := List.mem_map.mp mb
        have hb' : (((c.map I1).length : Nat) : Int) > 24 := by simpa using hb
        rw [List.length_map] at hb'
        refine Bool.eq_false_iff.mpr fun z => ?_
        have := List.all_eq_true.mp z c mc
        have : c.length ≤ 24 := by simpa using this
        omega
      rw [e1] at e0
      rw [e0] at q
      exact q
    · have e1 : p.all (fun c => decide (c.length ≤ 24)) = true := by
        have h3' : (p.map fun c : List Ins => decide ((((c.map I1).length : Nat) : Int) > 24)).any id = false := h3
        refine List.all_eq_true.mpr fun c mc => ?_
        have h4 := List.any_eq_false.mp h3' _ (List.mem_map.mpr ⟨c, mc, rfl⟩)
        have h5 : ¬ (((c.map I1).length : Nat) : Int) > 24 := by simpa using h4
        rw [List.length_map] at h5
        exact decide_eq_true (by omega)
      rw [e1] at e0
      show lcT _ _ _ _ (p.map CD) _ _ _
      refine lc_pure CD (fun c : List Ins => .bool (c.all isI)) (σ0 := [some (.val (PD p)), none, none]) (by simp) rfl p (by omega) (fun c mc Q2 hq => ?_) ?_
      · show lcT _ _ _ _ (c.map I1) _ _ _
        refine lc_pure I1 (fun i : Ins => .bool (isI i)) (σ0 := [some (.val (PD p)), some (.val (CD c)), none]) (by simp) rfl c (Nat.le_trans (s2 c mc) (by decide)) (fun i _ Q3 hq3 => And.intro rfl ⟨i, rfl, hq3⟩) ?_
        refine need_of (boolsOf_mapF _ _) ?_
        rw [List.all_map]
        exact hq
      · refine need_of (boolsOf_mapF _ _) ?_
        rw [List.all_map]
        rw [e0] at q
        exact q
  · rw [decide_eq_false h1]
    have e1 : isP p = false := by
      rw [e0]
      by_cases z1 : 1 ≤ p.length
      · rw [decide_eq_false (show ¬ p.length ≤ 12 by omega)]
        simp
      · rw [decide_eq_false z1]
        simp
    rw [e1] at q
    exact q
/-! ### _law_put: slots 0 parts, 1 at, 2 part -/
theorem ok_lawput (T : Facts P w K mg) : FnG P w K mg base 1 T.a_lawput T.d_lawput ["parts", "at", "part"] sp_lawput := by
  refine fun_okG T.F_lawput sc_lawput len_lawput fun cdv A outer s H Ex vs ss Q E hr hg lv h => ?_
  have hu := hr.units
  have hu5 : (A.deeper (envOfC "_law_put" (defScope s_lawput) s.heap.objs.size T.a_lawput cdv)).units + 65 < cLine := by have := hr.un; omega
  have np : PassesOwn (model P w) (A.deeper (envOfC "_law_put" (defScope s_lawput) s.heap.objs.size T.a_lawput cdv)) (envOfC "_law_put" (defScope s_lawput) s.heap.objs.size T.a_lawput cdv) (cxG P w K mg base ["parts", "at", "part"] "_law_put" (defScope s_lawput) T.a_lawput cdv A outer s H Ex).xe := PassesOwn.leaving
  obtain ⟨xs, i, x, rfl, hl, hi, q⟩ := h
  refine ⟨_, (jss_one (js_ret (je_op2 o_add (je_op2 o_add (je_slice o_sl (je_var 0) jo_none (jo_some (je_var 1))) (je_tup (ja_cons (je_var 2) ja_nil))) (je_slice o_sl (je_var 0) (jo_some (je_op2 o_add (je_var 1) je_int)) jo_none)))), ?_⟩
  have e1 := cut_to xs hi.1
  have e2 := cut_from xs (i := i + 1) (by omega)
  have e3 : (i + 1).toNat = i.toNat + 1 := by omega
  rw [e3] at e2
  have l1 := cut_len xs none (some i)
  have l2 := cut_len xs (some (i + 1)) none
  rw [← e1, ← e2] at q
  refine And.intro (room1 (by show 1 ≤ _; decide)) ?_
  refine And.intro (room1 (by show _ + 1 ≤ _; omega)) ?_
  refine And.intro (room1 ?_) q
  rw [List.length_append]
  show _ + 1 + _ ≤ _
  omega
/-! ### _law_next: slots 0 draws -/
theorem ok_lawnext (T : Facts P w K mg) : FnG P w K mg base 1 T.a_lawnext T.d_lawnext ["draws"] sp_lawnext := by
  refine fun_okG T.F_lawnext sc_lawnext len_lawnext fun cdv A outer s H Ex vs ss Q E hr hg lv h => ?_
  have hu := hr.units
  have hu5 : (A.deeper (envOfC "_law_next" (defScope s_lawnext) s.heap.objs.size T.a_lawnext cdv)).units + 65 < cLine := by have := hr.un; omega
  have np : PassesOwn (model P w) (A.deeper (envOfC "_law_next" (defScope s_lawnext) s.heap.objs.size T.a_lawnext cdv)) (envOfC "_law_next" (defScope s_lawnext) s.heap.objs.size T.a_lawnext cdv) (cxG P w K mg base ["draws"] "_law_next" (defScope s_lawnext) T.a_lawnext cdv A outer s H Ex).xe := PassesOwn.leaving
  obtain ⟨ns, rfl, q⟩ := h
  refine ⟨_, (jss_cons (js_if (jt_val (je_view 0)) (jss_one (js_ret (je_mut0 0 PySem.F.slot_list_pop PySem.F.type_list_pop u_pop))) jss_nil)
    (jss_one (js_ret je_int))), ?_⟩
  cases ns with
  | nil => exact q _ [] (Nat.le_refl _)
  | cons n r =>
    have e : ((n :: r).map PyData.int).getLast? = some (.int ((n :: r).getLast (List.cons_ne_nil n r))) := by
      rw [List.getLast?_map, List.getLast?_eq_getLast (List.cons_ne_nil n r)]
      rfl
    refine need_of e ?_
    have e2 : I2 (n :: r).dropLast = ((n :: r).map PyData.int).dropLast := List.map_dropLast
    have q2 := q ((n :: r).getLast (List.cons_ne_nil n r)) (n :: r).dropLast (by simp)
    rw [e2] at q2
    exact q2
/-! ### _law_pick: slots 0 draws, 1 some -/
theorem ok_lawpick (T : Facts P w K mg) : FnG P w K mg base 2 T.a_lawpick T.d_lawpick ["draws", "some"] sp_lawpick := by
  have G_lawnext := ok_lawnext (base := base) T
  refine fun_okG T.F_lawpick sc_lawpick len_lawpick fun cdv A outer s H Ex vs ss Q E hr hg lv h => ?_
  have hu := hr.units
  have hu5 : (A.deeper (envOfC "_law_pick" (defScope s_lawpick) s.heap.objs.size T.a_lawpick cdv)).units + 65 < cLine := by have := hr.un; omega
  have np : PassesOwn (model P w) (A.deeper (envOfC "_law_pick" (defScope s_lawpick) s.heap.objs.size T.a_lawpick cdv)) (envOfC "_law_pick" (defScope s_lawpick) s.heap.objs.size T.a_lawpick cdv) (cxG P w K mg base ["draws", "some"] "_law_pick" (defScope s_lawpick) T.a_lawpick cdv A outer s H Ex).xe := PassesOwn.leaving
  obtain ⟨ns, xs, rfl, hl, q⟩ := h
  refine ⟨_, (jss_one (js_ret (je_ix o_ix (je_var 1) (je_op2 o_mod (je_callT c_int (by rfl) T.m_int boot_int (jr_one (je_call G_lawnext (hr.mono (by decide)) hg (by rfl) T.g_lawnext T.F_lawnext.kp T.b_lawnext (jc_lent 0 jc_nil)))) (je_callB c_len (by rfl) T.m_len boot_len (jr_one (je_var 1))))))), ?_⟩
  refine And.intro rfl ⟨ns, rfl, fun n ms _ => ?_⟩
  obtain ⟨x, ex, mx⟩ := atI_mod xs hl n
  exact And.intro (show (0 : Int) < (xs.length : Int) by omega) (need_of ex (q x mx ms))
/-! ### _law_spoilt: slots 0 draws, 1 program, 2 kind, 3 c, 4 core, 5 i, 6 one -/
theorem ok_lawspoilt (T : Facts P w K mg) : FnG P w K mg base 3 T.a_lawspoilt T.d_lawspoilt ["draws", "program"] sp_lawspoilt := by
  have G_lawput := ok_lawput (base := base) T
  have G_lawpick := ok_lawpick (base := base) T
  have G_lawnext := ok_lawnext (base := base) T
  refine fun_okG T.F_lawspoilt sc_lawspoilt len_lawspoilt fun cdv A outer s H Ex vs ss Q E hr hg lv h => ?_
  have hu := hr.units
  have hu5 : (A.deeper (envOfC "_law_spoilt" (defScope s_lawspoilt) s.heap.objs.size T.a_lawspoilt cdv)).units + 65 < cLine := by have := hr.un; omega
  have np : PassesOwn (model P w) (A.deeper (envOfC "_law_spoilt" (defScope s_lawspoilt) s.heap.objs.size T.a_lawspoilt cdv)) (envOfC "_law_spoilt" (defScope s_lawspoilt) s.heap.objs.size T.a_lawspoilt cdv) (cxG P w K mg base ["draws", "program", "kind", "c", "core", "i", "one"] "_law_spoilt" (defScope s_lawspoilt) T.a_lawspoilt cdv A outer s H Ex).xe := PassesOwn.leaving
  obtain ⟨ns, p, rfl, hp, q⟩ := h
  refine ⟨_, (jss_cons (js_setv (i := 2) (je_op2 o_mod (je_callT c_int (by rfl) T.m_int boot_int (jr_one (je_call G_lawnext (hr.mono (by decide)) hg (by rfl) T.g_lawnext T.F_lawnext.kp T.b_lawnext (jc_lent 0 jc_nil)))) je_int) sc_lawspoilt.nd rfl (by first | exact .inl rfl | exact .inr rfl))
    (jss_cons (js_setv (i := 3) (je_op2 o_mod (je_callT c_int (by rfl) T.m_int boot_int (jr_one (je_call G_lawnext (hr.mono (by decide)) hg (by rfl) T.g_lawnext T.F_lawnext.kp T.b_lawnext (jc_lent 0 jc_nil)))) (je_callB c_len (by rfl) T.m_len boot_len (jr_one (je_var 1)))) sc_lawspoilt.nd rfl (by first | exact .inl rfl | exact .inr rfl))
    (jss_cons (js_setv (i := 4) (je_ix o_ix (je_var 1) (je_var 3)) sc_lawspoilt.nd rfl (by first | exact .inl rfl | exact .inr rfl))
    (jss_cons (js_if (jt_cmp (o_eq hu) (je_var 2) je_int) (jss_one (js_ret (je_op2 o_add (je_var 1) (je_op2 o_mulT (je_tup (ja_cons (je_tup ja_nil) ja_nil)) (je_op2 o_mod (je_callT c_int (by rfl) T.m_int boot_int (jr_one (je_call G_lawnext (hr.mono (by decide)) hg (by rfl) T.g_lawnext T.F_lawnext.kp T.b_lawnext (jc_lent 0 jc_nil)))) je_int))))) jss_nil)
    (jss_cons (js_if (jt_cmp (o_eq hu) (je_var 2) je_int) (jss_one (js_ret (je_op2 o_add (je_slice o_sl (je_var 1) jo_none (jo_some (je_var 3))) (je_slice o_sl (je_var 1) (jo_some (je_op2 o_add (je_var 3) je_int)) jo_none)))) jss_nil)
    (jss_cons (js_if (jt_cmp (o_eq hu) (je_var 2) je_int) (jss_one (js_ret (je_call G_lawput (hr.mono (by decide)) hg (by rfl) T.g_lawput T.F_lawput.kp T.b_lawput (jc_val (je_var 1) (jc_val (je_var 3) (jc_val (je_slice o_sl (je_op2 o_add (je_var 4) (je_op2 o_mulT (je_tup (ja_cons (je_tup (ja_cons je_str ja_nil)) ja_nil)) je_int)) jo_none (jo_some (je_op2 o_add je_int (je_op2 o_mod (je_callT c_int (by rfl) T.m_int boot_int (jr_one (je_call G_lawnext (hr.mono (by decide)) hg (by rfl) T.g_lawnext T.F_lawnext.kp T.b_lawnext (jc_lent 0 jc_nil)))) je_int)))) jc_nil)))))) jss_nil)
    (jss_cons (js_if (jt_not (jt_val (je_var 4))) (jss_one (js_ret (je_call G_lawput (hr.mono (by decide)) hg (by rfl) T.g_lawput T.F_lawput.kp T.b_lawput (jc_val (je_var 1) (jc_val (je_var 3) (jc_val (je_tup (ja_cons (je_tup (ja_cons je_str ja_nil)) ja_nil)) jc_nil)))))) jss_nil)
    (jss_cons (js_setv (i := 5) (je_op2 o_mod (je_callT c_int (by rfl) T.m_int boot_int (jr_one (je_call G_lawnext (hr.mono (by decide)) hg (by rfl) T.g_lawnext T.F_lawnext.kp T.b_lawnext (jc_lent 0 jc_nil)))) (je_callB c_len (by rfl) T.m_len boot_len (jr_one (je_var 4)))) sc_lawspoilt.nd rfl (by first | exact .inl rfl | exact .inr rfl))
    (jss_cons (js_setv (i := 6) (je_ix o_ix (je_var 4) (je_var 5)) sc_lawspoilt.nd rfl (by first | exact .inl rfl | exact .inr rfl))
    (jss_cons (js_if (jt_cmp (o_eq hu) (je_var 2) je_int) (jss_one (js_setv (i := 6) (je_op2 o_add (je_tup (ja_cons (je_call G_lawpick (hr.mono (by decide)) hg (by rfl) T.g_lawpick T.F_lawpick.kp T.b_lawpick (jc_lent 0 (jc_val (je_lst (ja_cons je_str (ja_cons je_str (ja_cons je_str (ja_cons je_str (ja_cons je_str (ja_cons je_str (ja_cons je_str (ja_cons je_str ja_nil))))))))) jc_nil))) ja_nil)) (je_slice o_sl (je_var 6) (jo_some je_int) jo_none)) sc_lawspoilt.nd rfl (by first | exact .inl rfl | exact .inr rfl))) jss_nil)
    (jss_cons (js_if (jw_and (jt_cmp (o_eq hu) (je_var 2) je_int) (jw_and1 (jt_cmp o_gt (je_callB c_len (by rfl) T.m_len boot_len (jr_one (je_var 6))) je_int))).jt (jss_one (js_setv (i := 6) (je_call G_lawput (hr.mono (by decide)) hg (by rfl) T.g_lawput T.F_lawput.kp T.b_lawput (jc_val (je_var 6) (jc_val je_int (jc_val (je_op2 o_sub (je_op2 o_mod (je_callT c_int (by rfl) T.m_int boot_int (jr_one (je_call G_lawnext (hr.mono (by decide)) hg (by rfl) T.g_lawnext T.F_lawnext.kp T.b_lawnext (jc_lent 0 jc_nil)))) je_int) je_int) jc_nil)))) sc_lawspoilt.nd rfl (by first | exact .inl rfl | exact .inr rfl))) jss_nil)
    (jss_cons (js_if (jt_cmp (o_eq hu) (je_var 2) je_int) (jss_one (js_setv (i := 6) (je_op2 o_add (je_slice o_sl (je_var 6) jo_none (jo_some je_int)) (je_tup (ja_cons (je_call G_lawpick (hr.mono (by decide)) hg (by rfl) T.g_lawpick T.F_lawpick.kp T.b_lawpick (jc_lent 0 (jc_val (je_lst (ja_cons je_int (ja_cons (je_un o_neg je_int) (ja_cons je_int (ja_cons je_int (ja_cons je_int (ja_cons je_int ja_nil))))))) jc_nil))) ja_nil))) sc_lawspoilt.nd rfl (by first | exact .inl rfl | exact .inr rfl))) jss_nil)
    (jss_cons (js_if (jt_cmp (o_eq hu) (je_var 2) je_int) (jss_one (js_setv (i := 6) (je_call G_lawpick (hr.mono (by decide)) hg (by rfl) T.g_lawpick T.F_lawpick.kp T.b_lawpick (jc_lent 0 (jc_val (je_lst (ja_cons (je_if (jt_cmp o_gt (je_callB c_len (by rfl) T.m_len boot_len (jr_one (je_var 6))) je_int) (je_slice o_sl (je_var 6) jo_none (jo_some (je_un o_neg je_int))) (je_op2 o_add (je_var 6) (je_tup (ja_cons je_int ja_nil)))) (ja_cons (je_slice o_sl (je_var 6) jo_none (jo_some je_int)) ja_nil))) jc_nil))) sc_lawspoilt.nd rfl (by first | exact .inl rfl | exact .inr rfl))) jss_nil)
    (jss_one (js_ret (je_call G_lawput (hr.mono (by decide)) hg (by rfl) T.g_lawput T.F_lawput.kp T.b_lawput (jc_val (je_var 1) (jc_val (je_var 3) (jc_val (je_call G_lawput (hr.mono (by decide)) hg (by rfl) T.g_lawput T.F_lawput.kp T.b_lawput (jc_val (je_var 4) (jc_val (je_var 5) (jc_val (je_var 6) jc_nil)))) jc_nil))))))))))))))))))), ?_⟩
  have sh := shape_of hp
  have hp' : 1 ≤ p.length ∧ p.length ≤ 12 ∧ (∀ c ∈ p, c.length ≤ 24) ∧ ∀ c ∈ p, ∀ i ∈ c, isI i = true := by
    unfold isP at hp
    simp only [Bool.and_eq_true, decide_eq_true_eq] at hp
    obtain ⟨⟨⟨h1, h2⟩, h3⟩, h4⟩ := hp
    refine ⟨h1, h2, fun c m => ?_, fun c m i mi => ?_⟩
    · have := List.all_eq_true.mp h3 c m
      simpa using this
    · exact List.all_eq_true.mp (List.all_eq_true.mp h4 c m) i mi
  obtain ⟨p1, p2, p3, p4⟩ := hp'
  have hpl : (p.map CD).length = p.length := List.length_map _
  refine And.intro rfl ⟨ns, rfl, fun n1 m1 _ => And.intro (by decide) ?_⟩
  refine And.intro rfl ⟨m1, rfl, fun n2 m2 _ => And.intro (show (0 : Int) < ((p.map CD).length : Int) by omega) ?_⟩
  have hc1 : 0 ≤ n2 % ((p.map CD).length : Int) := Int.emod_nonneg n2 (by omega)
  have hc2 : n2 % ((p.map CD).length : Int) < ((p.map CD).length : Int) := Int.emod_lt_of_pos n2 (by omega)
  obtain ⟨x, ex, mx⟩ := atI_mod (p.map CD) (by omega) n2
  obtain ⟨core, mc, rfl⟩ := List.mem_map.mp mx
  have lc := p3 core mc
  refine need_of ex ?_
  generalize ecv : n2 % ((p.map CD).length : Int) = c at hc1 hc2 ex
  -- a core put
  have put : ∀ (core2 : List Ins) (m : List Int), core2.length ≤ 100 → Q (.val (.tuple ((p.map CD).take c.toNat ++ [CD core2] ++ (p.map CD).drop (c.toNat + 1)))) [some (.lst (I2 m)), none] := fun core2 m hl => by
    have q2 := q (p.take c.toNat ++ [core2] ++ p.drop (c.toNat + 1)) ⟨by simp; omega, fun k mk => ?_⟩ m
    · have e : PD (p.take c.toNat ++ [core2] ++ p.drop (c.toNat + 1)) = .tuple ((p.map CD).take c.toNat ++ [CD core2] ++ (p.map CD).drop (c.toNat + 1)) := by
        unfold PD
        rw [List.map_append, List.map_append, List.map_take, List.map_drop]
        rfl
      rw [e] at q2
      exact q2
    · rcases List.mem_append.mp mk with mk | mk
      · rcases List.mem_append.mp mk with mk | mk
        · exact Nat.le_trans (p3 k (List.mem_of_mem_take mk)) (by decide)
        · have : k = core2 := by simpa using mk
          rw [this]
          exact hl
      · exact Nat.le_trans (p3 k (List.mem_of_mem_drop mk)) (by decide)
  refine And.intro ⟨dep_int, dep_int⟩ (ifb_eqi (fun k0 => ?_) fun k0 => ?_)
  · -- more cores
    refine And.intro (room1 (by show 0 ≤ _; decide)) (And.intro (room1 (by show 1 ≤ _; decide)) (And.intro rfl ⟨m2, rfl, fun n3 m3 _ => And.intro (by decide) ?_⟩))
    have h1 : 0 ≤ n3 % 13 := Int.emod_nonneg n3 (by decide)
    have h2 : n3 % 13 < 13 := Int.emod_lt_of_pos n3 (by decide)
    have er : (List.replicate (n3 % 13).toNat [PyData.tuple []]).flatten = (List.replicate (n3 % 13).toNat []).map CD := by
      rw [List.map_replicate]
      exact flat1 _ _
    refine And.intro ⟨h1, by omega, by show 1 ≤ _; decide⟩ (And.intro (room1 ?_) ?_)
    · rw [er, List.length_map, List.length_map, List.length_replicate]
      omega
    · have q2 := q (p ++ List.replicate (n3 % 13).toNat []) ⟨by simp; omega, fun k mk => ?_⟩ m3
      · have e : PD (p ++ List.replicate (n3 % 13).toNat []) = .tuple (p.map CD ++ (List.replicate (n3 % 13).toNat [PyData.tuple []]).flatten) := by
          rw [er]
          unfold PD
          rw [List.map_append]
        rw [e] at q2
        exact q2
      · rcases List.mem_append.mp mk with mk | mk
        · exact Nat.le_trans (p3 k mk) (by decide)
        · rw [List.eq_of_mem_replicate mk]
          decide
  refine And.intro ⟨dep_int, dep_int⟩ (ifb_eqi (fun k1 => ?_) fun k1 => ?_)
  · -- a core less
    have l1 := cut_len p none (some c)
    have l2 := cut_len p (some (c + 1)) none
    refine And.intro (room1 ?_) ?_
    · rw [cut_map, cut_map, List.length_map, List.length_map]
      omega
    · have q2 := q (SV.cutD p none (some c) ++ SV.cutD p (some (c + 1)) none) ⟨by rw [List.length_append]; omega, fun k mk => ?_⟩ m2
      · have e : PD (SV.cutD p none (some c) ++ SV.cutD p (some (c + 1)) none) = .tuple (SV.cutD (p.map CD) none (some c) ++ SV.cutD (p.map CD) (some (c + 1)) none) := by
          unfold PD
          rw [List.map_append, cut_map, cut_map]
        rw [e] at q2
        exact q2
      · rcases List.mem_append.mp mk with mk | mk
        · exact Nat.le_trans (p3 k (mem_cut mk)) (by decide)
        · exact Nat.le_trans (p3 k (mem_cut mk)) (by decide)
  refine And.intro ⟨dep_int, dep_int⟩ (ifb_eqi (fun k2 => ?_) fun k2 => ?_)
  · -- a long core
    have er : (List.replicate (25 : Int).toNat [PyData.tuple [.str "fence"]]).flatten = (List.replicate 25 (("fence", []) : Ins)).map I1 := by
      rw [List.map_replicate]
      exact flat1 _ _
    refine And.intro (room1 (by show 1 ≤ _; decide)) (And.intro (room1 (by show 1 ≤ _; decide)) (And.intro ⟨by decide, by decide, by show 1 ≤ _; decide⟩ (And.intro (room1 ?_) ?_)))
    · rw [er, List.length_map, List.length_map, List.length_replicate]
      omega
    · refine And.intro rfl ⟨m2, rfl, fun n3 m3 _ => And.intro (by decide) ?_⟩
      have e : PyData.tuple (SV.cutD (core.map I1 ++ (List.replicate (25 : Int).toNat [PyData.tuple [.str "fence"]]).flatten) none (some (24 + n3 % 2))) = CD (SV.cutD (core ++ List.replicate 25 (("fence", []) : Ins)) none (some (24 + n3 % 2))) := by
        rw [er, ← List.map_append, cut_map]
        rfl
      have l1 := cut_len (core ++ List.replicate 25 (("fence", []) : Ins)) none (some (24 + n3 % 2))
      rw [List.length_append, List.length_replicate] at l1
      have z := put (SV.cutD (core ++ List.replicate 25 (("fence", []) : Ins)) none (some (24 + n3 % 2))) m3 (by omega)
      rw [← e] at z
      exact And.intro rfl ⟨p.map CD, c, _, rfl, by omega, ⟨hc1, by omega⟩, z⟩
  cases hcore : core with
  | nil =>
    refine And.intro (room1 (by show 1 ≤ _; decide)) (And.intro (room1 (by show 1 ≤ _; decide)) (And.intro rfl ⟨p.map CD, c, _, rfl, by omega, ⟨hc1, by omega⟩, ?_⟩))
    exact put [("load", [])] m2 (by show 1 ≤ 100; decide)
  | cons i0 rest =>
    rw [← hcore]
    have hcl : 0 < core.length := by rw [hcore]; simp
    have hml : (core.map I1).length = core.length := List.length_map _
    refine ifb_f (k := !(tru (CD core))) (by rw [hcore]; rfl) ?_
    refine And.intro rfl ⟨m2, rfl, fun n3 m3 _ => And.intro (show (0 : Int) < ((core.map I1).length : Int) by omega) ?_⟩
    have hi1 : 0 ≤ n3 % ((core.map I1).length : Int) := Int.emod_nonneg n3 (by omega)
    have hi2 : n3 % ((core.map I1).length : Int) < ((core.map I1).length : Int) := Int.emod_lt_of_pos n3 (by omega)
    obtain ⟨y, ey, my⟩ := atI_mod (core.map I1) (by omega) n3
    obtain ⟨⟨w, as⟩, mw, rfl⟩ := List.mem_map.mp my
    have las : as.length ≤ 2 := isI_len (p4 core mc _ mw)
    refine need_of ey ?_
    generalize eiv : n3 % ((core.map I1).length : Int) = i at hi1 hi2 ey
    have fin : ∀ (x6 : PyData) (j : Ins) (m : List Int), x6 = I1 j → Q (.val (.tuple ((p.map CD).take c.toNat ++ [.tuple ((core.map I1).take i.toNat ++ [x6] ++ (core.map I1).drop (i.toNat + 1))] ++ (p.map CD).drop (c.toNat + 1)))) [some (.lst (I2 m)), none] := fun x6 j m e => by
      have z := put (core.take i.toNat ++ [j] ++ core.drop (i.toNat + 1)) m (by simp; omega)
      have e2 : CD (core.take i.toNat ++ [j] ++ core.drop (i.toNat + 1)) = .tuple ((core.map I1).take i.toNat ++ [x6] ++ (core.map I1).drop (i.toNat + 1)) := by
        unfold CD
        rw [List.map_append, List.map_append, List.map_take, List.map_drop, e]
        rfl
      rw [e2] at z
      exact z
    have bl : (core.map I1).length ≤ 1000 := by omega
    have bp : (p.map CD).length ≤ 1000 := by omega
    have bi : 0 ≤ i ∧ i < 1000 := ⟨hi1, by omega⟩
    have bc : 0 ≤ c ∧ c < 1000 := ⟨hc1, by omega⟩
    have lone : (PyData.str w :: as.map PyData.int).length ≤ 3 := by simp; omega
    have ctl : ∀ lo hi, (SV.cutD (PyData.str w :: as.map PyData.int) lo hi).length ≤ 3 := fun lo hi => Nat.le_trans (cut_len _ lo hi) lone
    refine And.intro ⟨dep_int, dep_int⟩ (ifb_eqi (fun k3 => ?_) fun k3 => ?_)
    · refine And.intro (room1 (by show 8 ≤ _; decide)) (And.intro rfl ⟨m3, _, rfl, by show 0 < 8; decide, fun x mx m4 => ?_⟩)
      have hx : ∃ z : Str, x = .str z := by
        simp only [List.mem_cons, List.not_mem_nil, or_false] at mx
        rcases mx with rfl | rfl | rfl | rfl | rfl | rfl | rfl | rfl
        all_goals exact ⟨_, rfl⟩
      obtain ⟨z, rfl⟩ := hx
      have lz := ctl (some 1) none
      refine And.intro (room1 (by show 1 ≤ _; decide)) (And.intro (room1 (Nat.le_trans (Nat.add_le_add_left lz 1) (by decide))) ?_)
      refine And.intro ⟨dep_int, dep_int⟩ (ifb_eqi (fun k4 => absurd k4 (by omega)) fun _ => ?_)
      refine And.intro ⟨dep_int, dep_int⟩ (ifb_eqi (fun k5 => absurd k5 (by omega)) fun _ => ?_)
      refine And.intro ⟨dep_int, dep_int⟩ (ifb_eqi (fun k6 => absurd k6 (by omega)) fun _ => ?_)
      refine And.intro rfl ⟨core.map I1, i, _, rfl, bl, bi, And.intro rfl ⟨p.map CD, c, _, rfl, bp, bc, fin _ (z, as) m4 ?_⟩⟩
      rw [cut_from _ (by decide)]
      rfl
    refine And.intro ⟨dep_int, dep_int⟩ (ifb_eqi (fun k4 => ?_) fun k4 => ?_)
    · refine ifb_dec (fun hl => ?_) fun _ => ?_
      · refine And.intro rfl ⟨m3, rfl, fun n4 m4 _ => And.intro (by decide) (And.intro rfl ⟨PyData.str w :: as.map PyData.int, 1, _, rfl, Nat.le_trans lone (by decide), ⟨by decide, by decide⟩, ?_⟩)⟩
        refine And.intro ⟨dep_int, dep_int⟩ (ifb_eqi (fun k5 => absurd k5 (by omega)) fun _ => ?_)
        refine And.intro ⟨dep_int, dep_int⟩ (ifb_eqi (fun k6 => absurd k6 (by omega)) fun _ => ?_)
        refine And.intro rfl ⟨core.map I1, i, _, rfl, bl, bi, And.intro rfl ⟨p.map CD, c, _, rfl, bp, bc, fin _ (w, (n4 % 7 - 2) :: as.drop 1) m4 ?_⟩⟩
        show PyData.tuple (PyData.str w :: PyData.int (n4 % 7 - 2) :: (as.map PyData.int).drop 1) = PyData.tuple (PyData.str w :: PyData.int (n4 % 7 - 2) :: (as.drop 1).map PyData.int)
        rw [List.map_drop]
      · refine And.intro ⟨dep_int, dep_int⟩ (ifb_eqi (fun k5 => absurd k5 (by omega)) fun _ => ?_)
        refine And.intro ⟨dep_int, dep_int⟩ (ifb_eqi (fun k6 => absurd k6 (by omega)) fun _ => ?_)
        exact And.intro rfl ⟨core.map I1, i, _, rfl, bl, bi, And.intro rfl ⟨p.map CD, c, _, rfl, bp, bc, fin _ (w, as) m3 rfl⟩⟩
    refine And.intro ⟨dep_int, dep_int⟩ (ifb_eqi (fun k5 => ?_) fun k5 => ?_)
    · refine And.intro (room1 (by show 6 ≤ _; decide)) (And.intro rfl ⟨m3, _, rfl, by show 0 < 6; decide, fun x mx m4 => ?_⟩)
      have hx : ∃ z : Int, x = .int z := by
        simp only [List.mem_cons, List.not_mem_nil, or_false] at mx
        rcases mx with rfl | rfl | rfl | rfl | rfl | rfl
        all_goals exact ⟨_, rfl⟩
      obtain ⟨z, rfl⟩ := hx
      have lz := ctl none (some 2)
      refine And.intro (room1 (by show 1 ≤ _; decide)) (And.intro (room1 (Nat.le_trans (Nat.add_le_add_right lz 1) (by decide))) ?_)
      refine And.intro ⟨dep_int, dep_int⟩ (ifb_eqi (fun k6 => absurd k6 (by omega)) fun _ => ?_)
      refine And.intro rfl ⟨core.map I1, i, _, rfl, bl, bi, And.intro rfl ⟨p.map CD, c, _, rfl, bp, bc, fin _ (w, as.take 1 ++ [z]) m4 ?_⟩⟩
      rw [cut_to _ (by decide)]
      show PyData.tuple (PyData.str w :: ((as.map PyData.int).take 1 ++ [PyData.int z])) = PyData.tuple (PyData.str w :: (as.take 1 ++ [z]).map PyData.int)
      rw [List.map_append, List.map_take]
      rfl
    refine And.intro ⟨dep_int, dep_int⟩ (ifb_eqi (fun k6 => ?_) fun k6 => ?_)
    · have cut2 : PyData.tuple (SV.cutD (PyData.str w :: as.map PyData.int) none (some 2)) = I1 (w, as.take 1) := by
        rw [cut_to _ (by decide)]
        show PyData.tuple (PyData.str w :: (as.map PyData.int).take 1) = PyData.tuple (PyData.str w :: (as.take 1).map PyData.int)
        rw [List.map_take]
      refine ifb_dec (fun hl => ?_) fun _ => ?_
      · have cutn : PyData.tuple (SV.cutD (PyData.str w :: as.map PyData.int) none (some (-1))) = I1 (w, as.dropLast) := by
          rw [cut_init]
          have hl' : 1 < ((PyData.str w :: as.map PyData.int).length : Int) := hl
          cases as with
          | nil => simp at hl'
          | cons a r =>
            show PyData.tuple (PyData.str w :: (PyData.int a :: r.map PyData.int).dropLast) = PyData.tuple (PyData.str w :: ((a :: r).dropLast).map PyData.int)
            rw [List.map_dropLast]
            rfl
        refine And.intro (room1 (by show 2 ≤ _; decide)) (And.intro rfl ⟨m3, _, rfl, by show 0 < 2; decide, fun x mx m4 => ?_⟩)
        have hx : ∃ j : Ins, x = I1 j := by
          simp only [List.mem_cons, List.not_mem_nil, or_false] at mx
          rcases mx with rfl | rfl
          · exact ⟨_, cutn⟩
          · exact ⟨_, cut2⟩
        obtain ⟨j, rfl⟩ := hx
        exact And.intro rfl ⟨core.map I1, i, _, rfl, bl, bi, And.intro rfl ⟨p.map CD, c, _, rfl, bp, bc, fin _ j m4 rfl⟩⟩
      · have addz : PyData.tuple ((PyData.str w :: as.map PyData.int) ++ [PyData.int 0]) = I1 (w, as ++ [0]) := by
          show _ = PyData.tuple (PyData.str w :: (as ++ [0]).map PyData.int)
          rw [List.map_append]
          rfl
        refine And.intro (room1 (by show 1 ≤ _; decide)) (And.intro (room1 (by show (PyData.str w :: as.map PyData.int).length + 1 ≤ _; omega)) ?_)
        refine And.intro (room1 (by show 2 ≤ _; decide)) (And.intro rfl ⟨m3, _, rfl, by show 0 < 2; decide, fun x mx m4 => ?_⟩)
        have hx : ∃ j : Ins, x = I1 j := by
          simp only [List.mem_cons, List.not_mem_nil, or_false] at mx
          rcases mx with rfl | rfl
          · exact ⟨_, addz⟩
          · exact ⟨_, cut2⟩
        obtain ⟨j, rfl⟩ := hx
        exact And.intro rfl ⟨core.map I1, i, _, rfl, bl, bi, And.intro rfl ⟨p.map CD, c, _, rfl, bp, bc, fin _ j m4 rfl⟩⟩
    exact And.intro rfl ⟨core.map I1, i, _, rfl, bl, bi, And.intro rfl ⟨p.map CD, c, _, rfl, bp, bc, fin _ (w, as) m3 rfl⟩⟩
/-! ### _law_bounds_hold: slots 0 number, 1 word, 2 many -/
theorem ok_lawboundshold (T : Facts P w K mg) : FnG P w K mg base 3 T.a_lawboundshold T.d_lawboundshold [] sp_lawboundshold := by
  have G_isprogram := ok_isprogram (base := base) T
  refine fun_okG T.F_lawboundshold sc_lawboundshold len_lawboundshold fun cdv A outer s H Ex vs ss Q E hr hg lv h => ?_
  have hu := hr.units
  have hu5 : (A.deeper (envOfC "_law_bounds_hold" (defScope s_lawboundshold) s.heap.objs.size T.a_lawboundshold cdv)).units + 65 < cLine := by have := hr.un; omega
  have np : PassesOwn (model P w) (A.deeper (envOfC "_law_bounds_hold" (defScope s_lawboundshold) s.heap.objs.size T.a_lawboundshold cdv)) (envOfC "_law_bounds_hold" (defScope s_lawboundshold) s.heap.objs.size T.a_lawboundshold cdv) (cxG P w K mg base ["number", "word", "many"] "_law_bounds_hold" (defScope s_lawboundshold) T.a_lawboundshold cdv A outer s H Ex).xe := PassesOwn.leaving
  obtain ⟨rfl, q⟩ := h
  refine ⟨_, (jss_cons (js_for np rfl (ji_seq (je_lst (ja_cons (je_un o_neg je_int) (ja_cons je_int (ja_cons je_int (ja_cons je_int (ja_cons je_int (ja_cons je_int (ja_cons je_int (ja_cons je_int ja_nil)))))))))) (jg_name (i := 0) sc_lawboundshold.nd rfl (by first | exact .inl rfl | exact .inr rfl)) (jss_cons (js_for np rfl (ji_seq (je_lst (ja_cons je_str (ja_cons je_str ja_nil)))) (jg_name (i := 1) sc_lawboundshold.nd rfl (by first | exact .inl rfl | exact .inr rfl)) (jss_cons (js_if (jt_cmp (o_ne hu) (je_callB (c_repr hg hu) (by rfl) T.m_repr boot_repr (jr_one (je_call G_isprogram (hr.mono (by decide)) hg (by rfl) T.g_isprogram T.F_isprogram.kp T.b_isprogram (jc_val (je_tup (ja_cons (je_tup (ja_cons (je_tup (ja_cons (je_var 1) (ja_cons (je_var 0) (ja_cons je_int ja_nil)))) ja_nil)) ja_nil)) jc_nil)))) (je_callB (c_repr hg hu) (by rfl) T.m_repr boot_repr (jr_one (je_chain o_le o_lt je_int (je_var 0) je_int)))) (jss_one (js_ret je_bl)) jss_nil)
    (jss_one (js_if (jt_cmp (o_ne hu) (je_callB (c_repr hg hu) (by rfl) T.m_repr boot_repr (jr_one (je_call G_isprogram (hr.mono (by decide)) hg (by rfl) T.g_isprogram T.F_isprogram.kp T.b_isprogram (jc_val (je_tup (ja_cons (je_tup (ja_cons (je_tup (ja_cons (je_var 1) (ja_cons je_int (ja_cons (je_var 0) ja_nil)))) ja_nil)) (ja_cons (je_tup ja_nil) ja_nil))) jc_nil)))) (je_callB (c_repr hg hu) (by rfl) T.m_repr boot_repr (jr_one (je_chain o_lt o_lt je_int (je_var 0) je_int)))) (jss_one (js_ret je_bl)) jss_nil))))
    (jss_one (js_if (jt_cmp (o_ne hu) (je_callB (c_repr hg hu) (by rfl) T.m_repr boot_repr (jr_one (je_call G_isprogram (hr.mono (by decide)) hg (by rfl) T.g_isprogram T.F_isprogram.kp T.b_isprogram (jc_val (je_tup (ja_cons (je_tup ja_nil) (ja_cons (je_tup (ja_cons (je_tup (ja_cons je_str (ja_cons (je_var 0) ja_nil))) ja_nil)) ja_nil))) jc_nil)))) (je_callB (c_repr hg hu) (by rfl) T.m_repr boot_repr (jr_one (je_chain o_le o_lt je_int (je_var 0) je_int)))) (jss_one (js_ret je_bl)) jss_nil))))
    (jss_cons (js_if (jt_cmp (o_ne hu) (je_lc rfl sc_lawboundshold.nd (ji_seq (je_lst (ja_cons je_int (ja_cons je_int (ja_cons je_int (ja_cons je_int ja_nil)))))) (blkOk_by (own := [("many", 2)]) (by rfl)) (by decide) (fun _ _ _ _ _ => (jg_name (i := 2) sc_lawboundshold.nd rfl (by first | exact .inl rfl | exact .inr rfl))) (fun _ _ _ _ _ => jq_nil) (fun _ _ _ _ _ => (je_call G_isprogram (hr.mono (by decide)) hg (by rfl) T.g_isprogram T.F_isprogram.kp T.b_isprogram (jc_val (je_op2 o_mulT (je_tup (ja_cons (je_tup ja_nil) ja_nil)) (je_var 2)) jc_nil)))) (je_lst (ja_cons je_bl (ja_cons je_bl (ja_cons je_bl (ja_cons je_bl ja_nil)))))) (jss_one (js_ret je_bl)) jss_nil)
    (jss_one (js_ret (je_cmp (o_eq hu) (je_lc rfl sc_lawboundshold.nd (ji_seq (je_lst (ja_cons je_int (ja_cons je_int (ja_cons je_int ja_nil))))) (blkOk_by (own := [("many", 2)]) (by rfl)) (by decide) (fun _ _ _ _ _ => (jg_name (i := 2) sc_lawboundshold.nd rfl (by first | exact .inl rfl | exact .inr rfl))) (fun _ _ _ _ _ => jq_nil) (fun _ _ _ _ _ => (je_call G_isprogram (hr.mono (by decide)) hg (by rfl) T.g_isprogram T.F_isprogram.kp T.b_isprogram (jc_val (je_tup (ja_cons (je_op2 o_mulT (je_tup (ja_cons (je_tup (ja_cons je_str (ja_cons je_int ja_nil))) ja_nil)) (je_var 2)) ja_nil)) jc_nil)))) (je_lst (ja_cons je_bl (ja_cons je_bl (ja_cons je_bl ja_nil))))))))), ?_⟩
  have fe := ne_words
  have w1 : ∀ (w : Str) (a b : Int), w ∈ (["store", "swap"] : List Str) → isI (w, [a, b]) = (decide (0 ≤ a ∧ a < 4) && decide (1 ≤ b ∧ b ≤ 99)) := fun w a b hw => by
    have hb : (decide (w = "store") || decide (w = "swap")) = true := by
      simp only [List.mem_cons, List.not_mem_nil, or_false] at hw
      rcases hw with h | h
      · rw [decide_eq_true h]
        rfl
      · rw [decide_eq_true h, Bool.or_true]
    show ((decide (w = "store") || decide (w = "swap")) && _ && _) = _
    rw [hb]
    rfl
  refine And.intro (room1 (by show 8 ≤ _; decide)) ?_
  refine for_map PyData.int (fun (rem : List Int) (σ : SSt) => ∃ x0 x1, σ = [x0, x1, none]) (fun n rem σ N hN h => ?_) (fun σ h => ?_) [-1, 0, 1, 3, 4, 5, 99, 100] _ ⟨none, none, rfl⟩
  · obtain ⟨x0, x1, rfl⟩ := h
    refine And.intro (room1 (by show 2 ≤ _; decide)) ?_
    refine for_map PyData.str (fun (rem : List Str) (σ : SSt) => ∃ x1, (∀ w ∈ rem, w ∈ (["store", "swap"] : List Str)) ∧ σ = [some (.val (.int n)), x1, none]) (fun w rem σ N2 hN2 h => ?_) (fun σ h => ?_) ["store", "swap"] _ ⟨x1, fun _ m => m, rfl⟩
    · obtain ⟨x1, hw, rfl⟩ := h
      have hw1 := hw w (by simp)
      have e1 : isP [[(w, [n, 1])]] = decide (0 ≤ n ∧ n < 4) := by
        show (true && (isI (w, [n, 1]) && true && true)) = _
        rw [w1 w n 1 hw1]
        simp
      have e2 : isP [[(w, [0, n])], []] = decide (1 ≤ n ∧ n < 100) := by
        show (true && (isI (w, [0, n]) && true && (true && true))) = _
        have e9 : decide (1 ≤ n ∧ n ≤ 99) = decide (1 ≤ n ∧ n < 100) := decide_eq_decide.mpr (by omega)
        rw [w1 w 0 n hw1, e9]
        simp
      refine And.intro (room1 (by show 3 ≤ _; decide)) (And.intro (room1 (by show 1 ≤ _; decide)) (And.intro (room1 (by show 1 ≤ _; decide)) ?_))
      refine And.intro rfl ⟨[[(w, [n, 1])]], rfl, ⟨by show 1 ≤ 30; decide, fun c m => by simp at m; subst m; show 1 ≤ 100; decide⟩, And.intro show_bool ?_⟩
      refine' ifb_both ?hp1 (fun h1 hp => ?ga1) (fun h1 hp => ?gb1)
      case ga1 =>
        have h1' : 0 ≤ n := of_decide_eq_true h1
        have ee : isP [[(w, [n, 1])]] = decide (n < 4) := by rw [e1]; exact decide_eq_decide.mpr ⟨fun z => z.2, fun z => ⟨h1', z⟩⟩
        rw [ee]
        exact And.intro show_bool (And.intro ⟨dep_str, dep_str⟩ (ifb_nes hp))
      case gb1 =>
        have h1' : ¬ 0 ≤ n := of_decide_eq_false h1
        have ee : isP [[(w, [n, 1])]] = false := by rw [e1]; exact decide_eq_false fun z => h1' z.1
        rw [ee]
        exact And.intro show_bool (And.intro ⟨dep_str, dep_str⟩ (ifb_nes hp))
      case hp1 =>
        refine And.intro (room1 (by show 3 ≤ _; decide)) (And.intro (room1 (by show 1 ≤ _; decide)) (And.intro (room1 (by show 0 ≤ _; decide)) (And.intro (room1 (by show 2 ≤ _; decide)) ?_)))
        refine And.intro rfl ⟨[[(w, [0, n])], []], rfl, ⟨by show 2 ≤ 30; decide, fun c m => by simp at m; rcases m with rfl | rfl; (show 1 ≤ 100; decide); (show 0 ≤ 100; decide)⟩, And.intro show_bool ?_⟩
        refine' ifb_both ?hp2 (fun h1 hp => ?ga2) (fun h1 hp => ?gb2)
        case ga2 =>
          have h1' : 0 < n := of_decide_eq_true h1
          have ee : isP [[(w, [0, n])], []] = decide (n < 100) := by rw [e2]; exact decide_eq_decide.mpr ⟨fun z => z.2, fun z => ⟨Int.add_one_le_of_lt h1', z⟩⟩
          rw [ee]
          exact And.intro show_bool (And.intro ⟨dep_str, dep_str⟩ (ifb_nes hp))
        case gb2 =>
          have h1' : ¬ 0 < n := of_decide_eq_false h1
          have ee : isP [[(w, [0, n])], []] = false := by rw [e2]; exact decide_eq_false fun z => h1' (Int.lt_of_add_one_le z.1)
          rw [ee]
          exact And.intro show_bool (And.intro ⟨dep_str, dep_str⟩ (ifb_nes hp))
        case hp2 =>
          exact hN2 _ ⟨_, fun z m => hw z (List.mem_cons_of_mem _ m), rfl⟩
    · obtain ⟨x1, _, rfl⟩ := h
      have e3 : isP [[], [("load", [n])]] = decide (0 ≤ n ∧ n < 4) := by
        show (true && (true && (isI ("load", [n]) && true && true))) = _
        show (true && (true && ((decide (("load" : Str) = "load") && decide (0 ≤ n ∧ n < 4)) && true && true))) = _
        rw [decide_eq_true (show ("load" : Str) = "load" from rfl)]
        simp
      refine And.intro (room1 (by show 0 ≤ _; decide)) (And.intro (room1 (by show 2 ≤ _; decide)) (And.intro (room1 (by show 1 ≤ _; decide)) (And.intro (room1 (by show 2 ≤ _; decide)) ?_)))
      refine And.intro rfl ⟨[[], [("load", [n])]], rfl, ⟨by show 2 ≤ 30; decide, fun c m => by simp at m; rcases m with rfl | rfl; (show 0 ≤ 100; decide); (show 1 ≤ 100; decide)⟩, And.intro show_bool ?_⟩
      refine ifb_both (P := N [some (.val (.int n)), x1, none]) (hN _ ⟨_, _, rfl⟩) (fun h1 hp => ?ga3) (fun h1 hp => ?gb3)
      case ga3 =>
        have h1' : 0 ≤ n := of_decide_eq_true h1
        have ee : isP [[], [("load", [n])]] = decide (n < 4) := by rw [e3]; exact decide_eq_decide.mpr ⟨fun z => z.2, fun z => ⟨h1', z⟩⟩
        rw [ee]
        exact And.intro show_bool (And.intro ⟨dep_str, dep_str⟩ (ifb_nes hp))
      case gb3 =>
        have h1' : ¬ 0 ≤ n := of_decide_eq_false h1
        have ee : isP [[], [("load", [n])]] = false := by rw [e3]; exact decide_eq_false fun z => h1' z.1
        rw [ee]
        exact And.intro show_bool (And.intro ⟨dep_str, dep_str⟩ (ifb_nes hp))
  · obtain ⟨x0, x1, rfl⟩ := h
    refine And.intro (room1 (by show 4 ≤ _; decide)) ?_
    refine lc_pure PyData.int (fun k : Int => .bool (isP (List.replicate k.toNat []))) (σ0 := [x0, x1, none]) (by simp) rfl [0, 1, 12, 13] (by decide) (fun k mk Q2 hq => ?_) ?_
    · have hk : 0 ≤ k ∧ k ≤ 13 := by
        simp only [List.mem_cons, List.not_mem_nil, or_false] at mk
        omega
      refine And.intro (room1 (by show 0 ≤ _; decide)) (And.intro (room1 (by show 1 ≤ _; decide)) (And.intro ⟨hk.1, by omega, by show 1 ≤ _; decide⟩ ?_))
      have er : (List.replicate k.toNat [PyData.tuple []]).flatten = (List.replicate k.toNat []).map CD := by
        rw [List.map_replicate]
        exact flat1 _ _
      refine And.intro rfl ⟨List.replicate k.toNat [], by rw [show PD (List.replicate k.toNat []) = .tuple ((List.replicate k.toNat []).map CD) from rfl, ← er], ⟨by rw [List.length_replicate]; omega, fun c m => by rw [List.eq_of_mem_replicate m]; decide⟩, hq⟩
    · refine And.intro (room1 (by show 4 ≤ _; decide)) (And.intro ⟨by decide +kernel, by decide +kernel⟩ (ifb_f (by decide +kernel) ?_))
      refine And.intro (room1 (by show 3 ≤ _; decide)) ?_
      refine lc_pure PyData.int (fun k : Int => .bool (isP [List.replicate k.toNat ("load", [3])])) (σ0 := [x0, x1, none]) (by simp) rfl [0, 24, 25] (by decide) (fun k mk Q2 hq => ?_) ?_
      · have hk : 0 ≤ k ∧ k ≤ 25 := by
          simp only [List.mem_cons, List.not_mem_nil, or_false] at mk
          omega
        refine And.intro (room1 (by show 2 ≤ _; decide)) (And.intro (room1 (by show 1 ≤ _; decide)) (And.intro ⟨hk.1, by omega, by show 1 ≤ _; decide⟩ (And.intro (room1 (by show 1 ≤ _; decide)) ?_)))
        have er : (List.replicate k.toNat [PyData.tuple [.str "load", .int 3]]).flatten = (List.replicate k.toNat (("load", [3]) : Ins)).map I1 := by
          rw [List.map_replicate]
          exact flat1 _ _
        refine And.intro rfl ⟨[List.replicate k.toNat ("load", [3])], by rw [show PD [List.replicate k.toNat ("load", [3])] = .tuple [.tuple ((List.replicate k.toNat (("load", [3]) : Ins)).map I1)] from rfl, ← er], ⟨by show 1 ≤ 30; decide, fun c m => by simp at m; subst m; simp; omega⟩, hq⟩
      · refine And.intro (room1 (by show 3 ≤ _; decide)) (And.intro ⟨by decide +kernel, by decide +kernel⟩ ?_)
        have e : PyData.eqv (.list (([0, 24, 25] : List Int).map fun k => .bool (isP [List.replicate k.toNat ("load", [3])]))) (.list [.bool true, .bool true, .bool false]) = true := by decide +kernel
        have q2 : Q (.val (.bool (PyData.eqv (.list (([0, 24, 25] : List Int).map fun k => .bool (isP [List.replicate k.toNat ("load", [3])]))) (.list [.bool true, .bool true, .bool false])))) [] := by
          rw [e]
          exact q
        exact q2
/-! ### _law_one: slots 0 draws, 1 lines, 2 kind, 3 line, 4 value -/
theorem ok_lawone (T : Facts P w K mg) : FnG P w K mg base 2 T.a_lawone T.d_lawone ["draws", "lines"] sp_lawone := by
  have G_lawnext := ok_lawnext (base := base) T
  refine fun_okG T.F_lawone sc_lawone len_lawone fun cdv A outer s H Ex vs ss Q E hr hg lv h => ?_
  have hu := hr.units
  have hu5 : (A.deeper (envOfC "_law_one" (defScope s_lawone) s.heap.objs.size T.a_lawone cdv)).units + 65 < cLine := by have := hr.un; omega
  have np : PassesOwn (model P w) (A.deeper (envOfC "_law_one" (defScope s_lawone) s.heap.objs.size T.a_lawone cdv)) (envOfC "_law_one" (defScope s_lawone) s.heap.objs.size T.a_lawone cdv) (cxG P w K mg base ["draws", "lines", "kind", "line", "value"] "_law_one" (defScope s_lawone) T.a_lawone cdv A outer s H Ex).xe := PassesOwn.leaving
  obtain ⟨ns, rfl, q⟩ := h
  refine ⟨_, (jss_cons (js_setv (i := 2) (je_op2 o_mod (je_callT c_int (by rfl) T.m_int boot_int (jr_one (je_call G_lawnext (hr.mono (by decide)) hg (by rfl) T.g_lawnext T.F_lawnext.kp T.b_lawnext (jc_lent 0 jc_nil)))) je_int) sc_lawone.nd rfl (by first | exact .inl rfl | exact .inr rfl))
    (jss_cons (js_setv (i := 3) (je_op2 o_mod (je_callT c_int (by rfl) T.m_int boot_int (jr_one (je_call G_lawnext (hr.mono (by decide)) hg (by rfl) T.g_lawnext T.F_lawnext.kp T.b_lawnext (jc_lent 0 jc_nil)))) (je_var 1)) sc_lawone.nd rfl (by first | exact .inl rfl | exact .inr rfl))
    (jss_cons (js_setv (i := 4) (je_if (jt_cmp (o_eq hu) (je_op2 o_mod (je_callT c_int (by rfl) T.m_int boot_int (jr_one (je_call G_lawnext (hr.mono (by decide)) hg (by rfl) T.g_lawnext T.F_lawnext.kp T.b_lawnext (jc_lent 0 jc_nil)))) je_int) je_int) (je_op2 o_add je_int (je_op2 o_mod (je_callT c_int (by rfl) T.m_int boot_int (jr_one (je_call G_lawnext (hr.mono (by decide)) hg (by rfl) T.g_lawnext T.F_lawnext.kp T.b_lawnext (jc_lent 0 jc_nil)))) je_int)) (je_op2 o_add je_int (je_op2 o_mod (je_callT c_int (by rfl) T.m_int boot_int (jr_one (je_call G_lawnext (hr.mono (by decide)) hg (by rfl) T.g_lawnext T.F_lawnext.kp T.b_lawnext (jc_lent 0 jc_nil)))) je_int))) sc_lawone.nd rfl (by first | exact .inl rfl | exact .inr rfl))
    (jss_cons (js_if (jt_cmp o_lt (je_var 2) je_int) (jss_one (js_ret (je_tup (ja_cons je_str (ja_cons (je_var 3) ja_nil))))) jss_nil)
    (jss_cons (js_if (jt_cmp o_lt (je_var 2) je_int) (jss_one (js_ret (je_tup (ja_cons je_str (ja_cons (je_var 3) (ja_cons (je_var 4) ja_nil)))))) jss_nil)
    (jss_one (js_ret (je_if (jt_cmp (o_eq hu) (je_var 2) je_int) (je_tup (ja_cons je_str (ja_cons (je_var 3) (ja_cons (je_var 4) ja_nil)))) (je_tup (ja_cons je_str ja_nil)))))))))), ?_⟩
  refine And.intro rfl ⟨ns, rfl, fun n1 m1 _ => And.intro (by decide) ?_⟩
  refine And.intro rfl ⟨m1, rfl, fun n2 m2 _ => And.intro (by decide) ?_⟩
  have hl1 : 0 ≤ n2 % 4 := Int.emod_nonneg n2 (by decide)
  have hl2 : n2 % 4 < 4 := Int.emod_lt_of_pos n2 (by decide)
  refine And.intro rfl ⟨m2, rfl, fun n3 m3 _ => And.intro (by decide) ?_⟩
  refine And.intro ⟨dep_int, dep_int⟩ (ifb_eqi (fun _ => ?_) fun _ => ?_)
  · refine And.intro rfl ⟨m3, rfl, fun n4 m4 _ => And.intro (by decide) ?_⟩
    have hv1 : 0 ≤ n4 % 99 := Int.emod_nonneg n4 (by decide)
    have hv2 : n4 % 99 < 99 := Int.emod_lt_of_pos n4 (by decide)
    refine ifb_dec (fun _ => ?_) fun _ => ?_
    · exact And.intro (room1 (by show 2 ≤ _; decide)) (q ("load", [n2 % 4]) (isI_load ⟨hl1, hl2⟩) m4)
    · refine ifb_dec (fun _ => ?_) fun _ => ?_
      · exact And.intro (room1 (by show 3 ≤ _; decide)) (q ("store", [n2 % 4, 1 + n4 % 99]) (isI_store ⟨hl1, hl2⟩ ⟨by omega, by omega⟩) m4)
      · refine And.intro ⟨dep_int, dep_int⟩ (ifb_eqi (fun _ => ?_) fun _ => ?_)
        · exact And.intro (room1 (by show 3 ≤ _; decide)) (q ("swap", [n2 % 4, 1 + n4 % 99]) (isI_swap ⟨hl1, hl2⟩ ⟨by omega, by omega⟩) m4)
        · exact And.intro (room1 (by show 1 ≤ _; decide)) (q ("fence", []) isI_fence m4)
  · refine And.intro rfl ⟨m3, rfl, fun n4 m4 _ => And.intro (by decide) ?_⟩
    have hv1 : 0 ≤ n4 % 3 := Int.emod_nonneg n4 (by decide)
    have hv2 : n4 % 3 < 3 := Int.emod_lt_of_pos n4 (by decide)
    refine ifb_dec (fun _ => ?_) fun _ => ?_
    · exact And.intro (room1 (by show 2 ≤ _; decide)) (q ("load", [n2 % 4]) (isI_load ⟨hl1, hl2⟩) m4)
    · refine ifb_dec (fun _ => ?_) fun _ => ?_
      · exact And.intro (room1 (by show 3 ≤ _; decide)) (q ("store", [n2 % 4, 1 + n4 % 3]) (isI_store ⟨hl1, hl2⟩ ⟨by omega, by omega⟩) m4)
      · refine And.intro ⟨dep_int, dep_int⟩ (ifb_eqi (fun _ => ?_) fun _ => ?_)
        · exact And.intro (room1 (by show 3 ≤ _; decide)) (q ("swap", [n2 % 4, 1 + n4 % 3]) (isI_swap ⟨hl1, hl2⟩ ⟨by omega, by omega⟩) m4)
        · exact And.intro (room1 (by show 1 ≤ _; decide)) (q ("fence", []) isI_fence m4)
/-! ### _law_program: slots 0 draws, 1 cores, 2 most, 3 lines, 4 i, 5 c -/
theorem ok_lawprogram (T : Facts P w K mg) : FnG P w K mg base 3 T.a_lawprogram T.d_lawprogram ["draws", "cores", "most", "lines"] sp_lawprogram := by
  have G_lawnext := ok_lawnext (base := base) T
  have G_lawone := ok_lawone (base := base) T
  refine fun_okG T.F_lawprogram sc_lawprogram len_lawprogram fun cdv A outer s H Ex vs ss Q E hr hg lv h => ?_
  have hu := hr.units
  have hu5 : (A.deeper (envOfC "_law_program" (defScope s_lawprogram) s.heap.objs.size T.a_lawprogram cdv)).units + 65 < cLine := by have := hr.un; omega
  have np : PassesOwn (model P w) (A.deeper (envOfC "_law_program" (defScope s_lawprogram) s.heap.objs.size T.a_lawprogram cdv)) (envOfC "_law_program" (defScope s_lawprogram) s.heap.objs.size T.a_lawprogram cdv) (cxG P w K mg base ["draws", "cores", "most", "lines", "i", "c"] "_law_program" (defScope s_lawprogram) T.a_lawprogram cdv A outer s H Ex).xe := PassesOwn.leaving
  obtain ⟨ns, cores, most, rfl, hc, hm, q⟩ := h
  refine ⟨_, (jss_one (js_ret (je_callT c_tuple (by rfl) T.m_tuple boot_tuple (jr_one (je_lc rfl sc_lawprogram.nd (ji_range1 (by rfl) T.m_range (je_var 1)) (blkOk_by (own := [("c", 5)]) (by rfl)) (by decide) (fun _ _ _ _ _ => (jg_name (i := 5) sc_lawprogram.nd rfl (by first | exact .inl rfl | exact .inr rfl))) (fun _ _ _ _ _ => jq_nil) (fun _ _ _ _ _ => (je_callT c_tuple (by rfl) T.m_tuple boot_tuple (jr_one (je_lc rfl sc_lawprogram.nd (ji_range1 (by rfl) T.m_range (je_op2 o_mod (je_callT c_int (by rfl) T.m_int boot_int (jr_one (je_call G_lawnext (hr.mono (by decide)) hg (by rfl) T.g_lawnext T.F_lawnext.kp T.b_lawnext (jc_lent 0 jc_nil)))) (je_op2 o_add (je_var 2) je_int))) (blkOk_by (own := [("i", 4)]) (by rfl)) (by decide) (fun _ _ _ _ _ => (jg_name (i := 4) sc_lawprogram.nd rfl (by first | exact .inl rfl | exact .inr rfl))) (fun _ _ _ _ _ => jq_nil) (fun _ _ _ _ _ => (je_call G_lawone (hr.mono (by decide)) hg (by rfl) T.g_lawone T.F_lawone.kp T.b_lawone (jc_lent 0 (jc_val (je_var 3) jc_nil))))))))))))), ?_⟩
  refine And.intro ⟨by omega, by omega⟩ ?_
  refine lc_map (fun i : Nat => PyData.int (0 + (i : Int))) (fun (rem : List Nat) (acc : List PyData) (σ : SSt) => ∃ (done : List (List Ins)) (ms : List Int), acc = done.map CD ∧ done.length + rem.length = cores.toNat ∧ (∀ c ∈ done, c.length ≤ 24 ∧ c.all isI = true) ∧ σ = [some (.lst (I2 ms)), some (.val (.int cores)), some (.val (.int most)), some (.val (.int 4)), none, none])
    (fun i rem acc σ N hN h => ?_) (fun acc σ h => ?_) (List.range (cores - 0).toNat) [] _ ⟨[], ns, rfl, by simp, (fun c m => absurd m (by simp)), rfl⟩
  · obtain ⟨done, ms, rfl, hlen, hd, rfl⟩ := h
    rw [List.length_cons] at hlen
    refine And.intro rfl ⟨ms, rfl, fun n m1 _ => And.intro (show (0 : Int) < most + 1 by omega) ?_⟩
    have hn1 : 0 ≤ n % (most + 1) := Int.emod_nonneg n (by omega)
    have hn2 : n % (most + 1) < most + 1 := Int.emod_lt_of_pos n (by omega)
    refine And.intro ⟨by omega, by omega⟩ ?_
    refine lc_map (fun i : Nat => PyData.int (0 + (i : Int))) (fun (rem2 : List Nat) (acc2 : List PyData) (σ : SSt) => ∃ (d2 : List Ins) (ms : List Int), acc2 = d2.map I1 ∧ d2.length + rem2.length ≤ 24 ∧ d2.all isI = true ∧ σ = [some (.lst (I2 ms)), some (.val (.int cores)), some (.val (.int most)), some (.val (.int 4)), none, some (.val (.int (0 + (i : Int))))])
      (fun j rem2 acc2 σ N2 hN2 h => ?_) (fun acc2 σ h => ?_) (List.range (n % (most + 1) - 0).toNat) [] _ ⟨[], m1, rfl, by simp; omega, rfl, rfl⟩
    · obtain ⟨d2, ms2, rfl, hl2, ha, rfl⟩ := h
      rw [List.length_cons] at hl2
      refine And.intro rfl ⟨ms2, rfl, fun x hx ms3 => And.intro (room2 (by rw [List.length_map]; omega)) (hN2 _ _ ⟨d2 ++ [x], ms3, by simp, by simp; omega, ?_, rfl⟩)⟩
      rw [List.all_append, ha]
      simp [hx]
    · obtain ⟨d2, ms2, rfl, hl2, ha, rfl⟩ := h
      refine And.intro (room2 (by rw [List.length_map]; omega)) (hN _ _ ⟨done ++ [d2], ms2, by simp [CD], by simp; omega, fun c m => ?_, rfl⟩)
      rcases List.mem_append.mp m with m | m
      · exact hd c m
      · have : c = d2 := by simpa using m
        subst this
        exact ⟨by simp at hl2; omega, ha⟩
  · obtain ⟨done, ms, rfl, hlen, hd, rfl⟩ := h
    refine q done ?_ ms
    simp only [List.length_nil] at hlen
    show (decide (1 ≤ done.length) && decide (done.length ≤ 12) && done.all (fun c => decide (c.length ≤ 24)) && done.all (fun c => c.all isI)) = true
    rw [decide_eq_true (by omega), decide_eq_true (by omega), List.all_eq_true.mpr fun c m => decide_eq_true (hd c m).1, List.all_eq_true.mpr fun c m => (hd c m).2]
    rfl
/-! ### _law_more: slots 0 draws, 1 many, 2 seed, 3 more, 4 k -/
theorem ok_lawmore (T : Facts P w K mg) : FnG P w K mg base 2 T.a_lawmore T.d_lawmore ["draws", "many"] sp_lawmore := by
  have G_lawnext := ok_lawnext (base := base) T
  refine fun_okG T.F_lawmore sc_lawmore len_lawmore fun cdv A outer s H Ex vs ss Q E hr hg lv h => ?_
  have hu := hr.units
  have hu5 : (A.deeper (envOfC "_law_more" (defScope s_lawmore) s.heap.objs.size T.a_lawmore cdv)).units + 65 < cLine := by have := hr.un; omega
  have np : PassesOwn (model P w) (A.deeper (envOfC "_law_more" (defScope s_lawmore) s.heap.objs.size T.a_lawmore cdv)) (envOfC "_law_more" (defScope s_lawmore) s.heap.objs.size T.a_lawmore cdv) (cxG P w K mg base ["draws", "many", "seed", "more", "k"] "_law_more" (defScope s_lawmore) T.a_lawmore cdv A outer s H Ex).xe := PassesOwn.leaving
  obtain ⟨ns, rfl, hl, q⟩ := h
  refine ⟨_, (jss_cons (js_setv (i := 2) (je_op2 o_add (je_op2 o_add (je_op2 o_mul je_int (je_call G_lawnext (hr.mono (by decide)) hg (by rfl) T.g_lawnext T.F_lawnext.kp T.b_lawnext (jc_lent 0 jc_nil))) (je_call G_lawnext (hr.mono (by decide)) hg (by rfl) T.g_lawnext T.F_lawnext.kp T.b_lawnext (jc_lent 0 jc_nil))) je_int) sc_lawmore.nd rfl (by first | exact .inl rfl | exact .inr rfl))
    (jss_cons (js_set (i := 3) (je_lst ja_nil) (arV_none (by rw [lv]; decide)) sc_lawmore.nd rfl (by first | exact .inl rfl | exact .inr rfl))
    (jss_cons (js_for np rfl (ji_range1 (by rfl) T.m_range (je_var 1)) (jg_name (i := 4) sc_lawmore.nd rfl (by first | exact .inl rfl | exact .inr rfl)) (jss_cons (js_setv (i := 2) (je_op2 o_mod (je_callT c_int (by rfl) T.m_int boot_int (jr_one (je_op2 o_add (je_op2 o_mul (je_var 2) je_int) je_int))) je_int) sc_lawmore.nd rfl (by first | exact .inl rfl | exact .inr rfl))
    (jss_one (js_expr (je_mut 3 PySem.F.slot_list_append PySem.F.type_list_append u_append (ja_cons (je_op2 o_mod (je_callT c_int (by rfl) T.m_int boot_int (jr_one (je_op2 o_fdiv (je_var 2) je_int))) je_int) ja_nil))))))
    (jss_one (js_ret (je_op2 o_add (je_view 3) (je_view 0))))))), ?_⟩
  refine And.intro rfl ⟨ns, rfl, fun n1 m1 h1 => And.intro (.inl (by decide)) (And.intro rfl ⟨m1, rfl, fun n2 m2 h2 => ?_⟩)⟩
  refine And.intro (Nat.zero_le _) (And.intro ⟨by decide, by decide⟩ ?_)
  refine for_map (fun i : Nat => PyData.int (0 + (i : Int))) (fun (rem : List Nat) (σ : SSt) => ∃ (seed : Int) (acc : List Int) (L : List PyData) (x4 : Option S), σ = [some (.lst (I2 m2)), some (.val (.int 1200)), some (.val (.int seed)), some (.lst L), x4] ∧ L = I2 acc ∧ acc.length + rem.length ≤ 1200)
    (fun i rem σ N hN h => ?_) (fun σ h => ?_) (List.range ((1200 : Int) - 0).toNat) _ ⟨_, [], _, none, rfl, rfl, by simp⟩
  · obtain ⟨seed, acc, L, x4, rfl, rfl, hl2⟩ := h
    rw [List.length_cons] at hl2
    refine And.intro (.inr (by decide)) (And.intro (by decide) (And.intro ⟨by decide, by decide⟩ (And.intro (by decide) (And.intro ?_ (hN _ ⟨_, acc ++ [(seed * 48271 + 12345) % 2147483647 / 7 % 1000], _, _, rfl, ?_, by simp; omega⟩)))))
    · show (I2 acc).length < _
      unfold I2
      rw [List.length_map]
      exact room2 (by omega)
    · unfold I2
      rw [List.map_append]
      rfl
  · obtain ⟨seed, acc, L, x4, rfl, rfl, hl2⟩ := h
    have e : I2 (acc ++ m2) = I2 acc ++ I2 m2 := List.map_append
    have q2 := q (acc ++ m2) m2
    rw [e] at q2
    refine And.intro (room1 ?_) q2
    unfold I2
    rw [List.length_map, List.length_map]
    omega
/-! ### _law_any_program: slots 0 draws -/
theorem ok_lawanyprogram (T : Facts P w K mg) : FnG P w K mg base 4 T.a_lawanyprogram T.d_lawanyprogram ["draws"] sp_lawanyprogram := by
  have G_lawprogram := ok_lawprogram (base := base) T
  have G_lawnext := ok_lawnext (base := base) T
  have G_lawmore := ok_lawmore (base := base) T
  refine fun_okG T.F_lawanyprogram sc_lawanyprogram len_lawanyprogram fun cdv A outer s H Ex vs ss Q E hr hg lv h => ?_
  have hu := hr.units
  have hu5 : (A.deeper (envOfC "_law_any_program" (defScope s_lawanyprogram) s.heap.objs.size T.a_lawanyprogram cdv)).units + 65 < cLine := by have := hr.un; omega
  have np : PassesOwn (model P w) (A.deeper (envOfC "_law_any_program" (defScope s_lawanyprogram) s.heap.objs.size T.a_lawanyprogram cdv)) (envOfC "_law_any_program" (defScope s_lawanyprogram) s.heap.objs.size T.a_lawanyprogram cdv) (cxG P w K mg base ["draws"] "_law_any_program" (defScope s_lawanyprogram) T.a_lawanyprogram cdv A outer s H Ex).xe := PassesOwn.leaving
  obtain ⟨ns, rfl, hl, q⟩ := h
  refine ⟨_, (jss_cons (js_if (jt_cmp (o_eq hu) (je_op2 o_mod (je_callT c_int (by rfl) T.m_int boot_int (jr_one (je_call G_lawnext (hr.mono (by decide)) hg (by rfl) T.g_lawnext T.F_lawnext.kp T.b_lawnext (jc_lent 0 jc_nil)))) je_int) je_int) (jss_one (js_ret (je_callF G_lawprogram (hr.mono (by decide)) hg (by rfl) T.g_lawprogram T.F_lawprogram.kp T.b_lawprogram (je_call G_lawmore (hr.mono (by decide)) hg (by rfl) T.g_lawmore T.F_lawmore.kp T.b_lawmore (jc_lent 0 (jc_val je_int jc_nil))) (ja_cons je_int (ja_cons je_int (ja_cons je_int ja_nil)))))) jss_nil)
    (jss_one (js_ret (je_call G_lawprogram (hr.mono (by decide)) hg (by rfl) T.g_lawprogram T.F_lawprogram.kp T.b_lawprogram (jc_lent 0 (jc_val (je_op2 o_add je_int (je_op2 o_mod (je_callT c_int (by rfl) T.m_int boot_int (jr_one (je_call G_lawnext (hr.mono (by decide)) hg (by rfl) T.g_lawnext T.F_lawnext.kp T.b_lawnext (jc_lent 0 jc_nil)))) je_int)) (jc_val je_int (jc_val je_int jc_nil)))))))), ?_⟩
  refine And.intro rfl ⟨ns, rfl, fun n m hm => And.intro (by decide) ?_⟩
  refine And.intro ⟨dep_int, dep_int⟩ (ifb_eqi (fun _ => ?_) fun _ => ?_)
  · refine And.intro rfl ⟨m, rfl, by omega, fun ms ms2 => ?_⟩
    exact ⟨ms, 12, 24, rfl, ⟨by decide, by decide⟩, ⟨by decide, by decide⟩, fun p hp ms3 => q p hp ms2⟩
  · refine And.intro rfl ⟨m, rfl, fun n2 m2 _ => And.intro (by decide) ?_⟩
    have h1 : 0 ≤ n2 % 4 := Int.emod_nonneg n2 (by decide)
    have h2 : n2 % 4 < 4 := Int.emod_lt_of_pos n2 (by decide)
    exact And.intro rfl ⟨m2, 1 + n2 % 4, 5, rfl, ⟨by omega, by omega⟩, ⟨by decide, by decide⟩, fun p hp ms3 => q p hp ms3⟩
/-! ### _law_number: slots 0 cell -/
theorem ok_lawnumber (T : Facts P w K mg) : FnG P w K mg base 1 T.a_lawnumber T.d_lawnumber ["cell"] sp_lawnumber := by
  refine fun_okG T.F_lawnumber sc_lawnumber len_lawnumber fun cdv A outer s H Ex vs ss Q E hr hg lv h => ?_
  have hu := hr.units
  have hu5 : (A.deeper (envOfC "_law_number" (defScope s_lawnumber) s.heap.objs.size T.a_lawnumber cdv)).units + 65 < cLine := by have := hr.un; omega
  have np : PassesOwn (model P w) (A.deeper (envOfC "_law_number" (defScope s_lawnumber) s.heap.objs.size T.a_lawnumber cdv)) (envOfC "_law_number" (defScope s_lawnumber) s.heap.objs.size T.a_lawnumber cdv) (cxG P w K mg base ["cell"] "_law_number" (defScope s_lawnumber) T.a_lawnumber cdv A outer s H Ex).xe := PassesOwn.leaving
  obtain ⟨i, rfl, q⟩ := h
  refine ⟨_, (jss_cons (js_if (jt_cmp o_lt (je_var 0) je_int) (jss_one (js_ret (je_op2 o_sub je_int (je_var 0)))) jss_nil)
    (jss_one (js_ret (je_var 0)))), ?_⟩
  exact ifb_of (fun _ => q _) fun _ => q _
/-! ### _law_draws: slots 0 script, 1 draws, 2 cell, 3 rest, 4 k, 5 once, 6 twice -/
theorem ok_lawdraws (T : Facts P w K mg) : FnG P w K mg base 2 T.a_lawdraws T.d_lawdraws ["script"] sp_lawdraws := by
  have G_lawnumber := ok_lawnumber (base := base) T
  refine fun_okG T.F_lawdraws sc_lawdraws len_lawdraws fun cdv A outer s H Ex vs ss Q E hr hg lv h => ?_
  have hu := hr.units
  have hu5 : (A.deeper (envOfC "_law_draws" (defScope s_lawdraws) s.heap.objs.size T.a_lawdraws cdv)).units + 65 < cLine := by have := hr.un; omega
  have np : PassesOwn (model P w) (A.deeper (envOfC "_law_draws" (defScope s_lawdraws) s.heap.objs.size T.a_lawdraws cdv)) (envOfC "_law_draws" (defScope s_lawdraws) s.heap.objs.size T.a_lawdraws cdv) (cxG P w K mg base ["script", "draws", "cell", "rest", "k", "once", "twice"] "_law_draws" (defScope s_lawdraws) T.a_lawdraws cdv A outer s H Ex).xe := PassesOwn.leaving
  obtain ⟨ns, rfl, hl, q⟩ := h
  refine ⟨_, (jss_cons (js_set (i := 1) (je_lst ja_nil) (arV_none (by rw [lv]; decide)) sc_lawdraws.nd rfl (by first | exact .inl rfl | exact .inr rfl))
    (jss_cons (js_for np rfl (ji_seq (je_view 0)) (jg_name (i := 2) sc_lawdraws.nd rfl (by first | exact .inl rfl | exact .inr rfl)) (jss_cons (js_setv (i := 3) (je_call G_lawnumber (hr.mono (by decide)) hg (by rfl) T.g_lawnumber T.F_lawnumber.kp T.b_lawnumber (jc_val (je_var 2) jc_nil)) sc_lawdraws.nd rfl (by first | exact .inl rfl | exact .inr rfl))
    (jss_one (js_if (jt_cmp o_ge (je_var 3) je_int) (jss_one (js_for np rfl (ji_range1 (by rfl) T.m_range je_int) (jg_name (i := 4) sc_lawdraws.nd rfl (by first | exact .inl rfl | exact .inr rfl)) (jss_cons (js_if (jt_cmp (o_eq hu) (je_var 3) je_int) (jss_one js_break) jss_nil)
    (jss_cons (js_expr (je_mut 1 PySem.F.slot_list_append PySem.F.type_list_append u_append (ja_cons (je_op2 o_mod (je_callT c_int (by rfl) T.m_int boot_int (jr_one (je_var 3))) je_int) ja_nil)))
    (jss_one (js_setv (i := 3) (je_op2 o_fdiv (je_var 3) je_int) sc_lawdraws.nd rfl (by first | exact .inl rfl | exact .inr rfl))))))) (jss_cons (js_setv (i := 5) (je_op2 o_mod (je_callT c_int (by rfl) T.m_int boot_int (jr_one (je_op2 o_add (je_op2 o_mul (je_var 3) je_int) je_int))) je_int) sc_lawdraws.nd rfl (by first | exact .inl rfl | exact .inr rfl))
    (jss_cons (js_setv (i := 6) (je_op2 o_mod (je_callT c_int (by rfl) T.m_int boot_int (jr_one (je_op2 o_add (je_op2 o_mul (je_var 5) je_int) (je_var 3)))) je_int) sc_lawdraws.nd rfl (by first | exact .inl rfl | exact .inr rfl))
    (jss_one (js_expr (je_mut 1 PySem.F.slot_list_extend PySem.F.type_list_extend u_extend (ja_cons (je_lst (ja_cons (je_op2 o_mod (je_callT c_int (by rfl) T.m_int boot_int (jr_one (je_var 3))) je_int) (ja_cons (je_op2 o_mod (je_callT c_int (by rfl) T.m_int boot_int (jr_one (je_var 5))) je_int) (ja_cons (je_op2 o_mod (je_callT c_int (by rfl) T.m_int boot_int (jr_one (je_var 6))) je_int) ja_nil)))) ja_nil))))))))))
    (jss_cons (js_expr (je_mut0 1 PySem.F.slot_list_reverse PySem.F.type_list_reverse u_reverse))
    (jss_one (js_ret (je_mov 1)))))), ?_⟩
  refine And.intro (Nat.zero_le _) ?_
  refine for_map PyData.int (fun (cs : List Int) (σ : SSt) => ∃ L acc x2 x3 x4 x5 x6, σ = [some (.scr ns), some (.lst L), x2, x3, x4, x5, x6] ∧ L = I2 acc ∧ acc.length + 60 * cs.length ≤ 3780) (fun c cs σ N hN h => ?_) (fun σ h => ?_) ns _ ⟨[], [], none, none, none, none, none, rfl, rfl, by simp; omega⟩
  · obtain ⟨L, acc, x2, x3, x4, x5, x6, rfl, rfl, hz⟩ := h
    rw [List.length_cons] at hz
    refine And.intro rfl ⟨c, rfl, fun j => ?_⟩
    refine ifb_of (fun _ => ?_) fun _ => ?_
    · refine And.intro (by decide) ?_
      refine for_map (fun (i : Nat) => PyData.int (0 + (i : Int))) (fun (ks : List Nat) (σ : SSt) => ∃ L acc2 r x4 x5 x6, σ = [some (.scr ns), some (.lst L), some (.val (.int c)), some (.val (.int r)), x4, x5, x6] ∧ L = I2 acc2 ∧ acc2.length + ks.length ≤ acc.length + 60)
        (fun i ks σ N2 hN2 h => ?_) (fun σ h => ?_) (List.range 60) _ ⟨_, acc, j, _, _, _, rfl, rfl, by simp⟩
      · obtain ⟨L, acc2, r, x4, x5, x6, rfl, rfl, hz2⟩ := h
        rw [List.length_cons] at hz2
        refine And.intro ⟨dep_int, dep_int⟩ ?_
        refine ifb_eqi (fun r0 => ?_) fun r0 => ?_
        · exact hN _ ⟨_, acc2, _, _, _, _, _, rfl, rfl, by omega⟩
        · refine And.intro (by decide) (And.intro ?_ (And.intro ⟨by decide, by decide⟩ (hN2 _ ⟨_, acc2 ++ [r % 1000], r / 1000, _, _, _, rfl, ?_, by simp; omega⟩)))
          · show (I2 acc2).length < _
            unfold I2
            rw [List.length_map]
            exact room2 (by omega)
          · unfold I2
            rw [List.map_append]
            rfl
      · obtain ⟨L, acc2, r, x4, x5, x6, rfl, rfl, hz2⟩ := h
        exact hN _ ⟨_, acc2, _, _, _, _, _, rfl, rfl, by simp at hz2; omega⟩
    · refine And.intro (.inr (by decide)) (And.intro (by decide) (And.intro (.inr (by decide)) (And.intro (by decide) (And.intro (by decide) (And.intro (by decide) (And.intro (by decide) (And.intro (room1 (by simp)) (And.intro ?_ ?_))))))))
      · show (I2 acc).length + 3 ≤ _
        unfold I2
        rw [List.length_map]
        exact room1 (by omega)
      · refine hN _ ⟨_, acc ++ [j % 1000, (j * 48271 + 11) % 2147483647 % 1000, ((j * 48271 + 11) % 2147483647 * 69621 + j) % 2147483629 % 1000], _, _, _, _, _, rfl, ?_, by simp; omega⟩
        unfold I2
        rw [List.map_append]
        rfl
  · obtain ⟨L, acc, x2, x3, x4, x5, x6, rfl, rfl, hz⟩ := h
    have q2 := q acc.reverse (by simp at hz ⊢; omega)
    have e : I2 acc.reverse = (I2 acc).reverse := List.map_reverse
    rw [e] at q2
    exact q2
/-! ### law: slots 0 script, 1 draws, 2 program, 3 k, 4 given, 5 due -/
theorem ok_law (T : Facts P w K mg) : FnG P w K mg base 5 T.a_law T.d_law ["script"] sp_law := by
  have G_lawasked := ok_lawasked (base := base) T
  have G_isprogram := ok_isprogram (base := base) T
  have G_lawisprogram := ok_lawisprogram (base := base) T
  have G_lawspoilt := ok_lawspoilt (base := base) T
  have G_lawboundshold := ok_lawboundshold (base := base) T
  have G_lawanyprogram := ok_lawanyprogram (base := base) T
  have G_lawdraws := ok_lawdraws (base := base) T
  refine fun_okG T.F_law sc_law len_law fun cdv A outer s H Ex vs ss Q E hr hg lv h => ?_
  have hu := hr.units
  have hu5 : (A.deeper (envOfC "law" (defScope s_law) s.heap.objs.size T.a_law cdv)).units + 65 < cLine := by have := hr.un; omega
  have np : PassesOwn (model P w) (A.deeper (envOfC "law" (defScope s_law) s.heap.objs.size T.a_law cdv)) (envOfC "law" (defScope s_law) s.heap.objs.size T.a_law cdv) (cxG P w K mg base ["script", "draws", "program", "k", "given", "due"] "law" (defScope s_law) T.a_law cdv A outer s H Ex).xe := PassesOwn.leaving
  obtain ⟨ns, rfl, hl, q⟩ := h
  refine ⟨_, (jss_cons (js_set (i := 1) (je_call G_lawdraws (hr.mono (by decide)) hg (by rfl) T.g_lawdraws T.F_lawdraws.kp T.b_lawdraws (jc_lent 0 jc_nil)) (arV_none (by rw [lv]; decide)) sc_law.nd rfl (by first | exact .inl rfl | exact .inr rfl))
    (jss_cons (js_setv (i := 2) (je_call G_lawanyprogram (hr.mono (by decide)) hg (by rfl) T.g_lawanyprogram T.F_lawanyprogram.kp T.b_lawanyprogram (jc_lent 1 jc_nil)) sc_law.nd rfl (by first | exact .inl rfl | exact .inr rfl))
    (jss_cons (js_if (jw_or (jt_cmp o_isNotB (je_call G_isprogram (hr.mono (by decide)) hg (by rfl) T.g_isprogram T.F_isprogram.kp T.b_isprogram (jc_val (je_var 2) jc_nil)) je_bl) (jw_or1 (jt_not (jt_val (je_call0 G_lawboundshold (hr.mono (by decide)) hg (by rfl) T.g_lawboundshold T.F_lawboundshold.kp T.b_lawboundshold))))).jt (jss_one (js_ret je_bl)) jss_nil)
    (jss_cons (js_for np rfl (ji_range1 (by rfl) T.m_range je_int) (jg_name (i := 3) sc_law.nd rfl (by first | exact .inl rfl | exact .inr rfl)) (jss_cons (js_setv (i := 4) (je_call G_lawspoilt (hr.mono (by decide)) hg (by rfl) T.g_lawspoilt T.F_lawspoilt.kp T.b_lawspoilt (jc_lent 1 (jc_val (je_var 2) jc_nil))) sc_law.nd rfl (by first | exact .inl rfl | exact .inr rfl))
    (jss_cons (js_setv (i := 5) (je_call G_lawisprogram (hr.mono (by decide)) hg (by rfl) T.g_lawisprogram T.F_lawisprogram.kp T.b_lawisprogram (jc_val (je_var 4) jc_nil)) sc_law.nd rfl (by first | exact .inl rfl | exact .inr rfl))
    (jss_one (js_if (jw_or (jt_cmp (o_ne hu) (je_callB (c_repr hg hu) (by rfl) T.m_repr boot_repr (jr_one (je_call G_isprogram (hr.mono (by decide)) hg (by rfl) T.g_isprogram T.F_isprogram.kp T.b_isprogram (jc_val (je_var 4) jc_nil)))) (je_callB (c_repr hg hu) (by rfl) T.m_repr boot_repr (jr_one (je_var 5)))) (jw_or1 (jt_cmp (o_ne hu) (je_call G_lawasked (hr.mono (by decide)) hg (by rfl) T.g_lawasked T.F_lawasked.kp T.b_lawasked (jc_val (je_var 4) jc_nil)) (je_if (jt_val (je_var 5)) je_non (je_tup (ja_cons je_str ja_nil)))))).jt (jss_one (js_ret je_bl)) jss_nil)))))
    (jss_one (js_ret (je_cmp o_is (je_call G_lawasked (hr.mono (by decide)) hg (by rfl) T.g_lawasked T.F_lawasked.kp T.b_lawasked (jc_val (je_var 2) jc_nil)) je_non))))))), ?_⟩
  refine And.intro rfl ⟨ns, rfl, hl, fun ms hms => ?_⟩
  refine And.intro rfl ⟨ms, rfl, hms, fun p hp ms2 => ?_⟩
  have sh : Shape p := shape_of hp
  refine And.intro rfl ⟨p, rfl, sh, ?_⟩
  rw [hp]
  refine And.intro rfl ⟨rfl, ?_⟩
  refine And.intro ⟨by decide, by decide⟩ ?_
  refine for_map (fun i : Nat => PyData.int (0 + (i : Int))) (fun (rem : List Nat) (σ : SSt) => ∃ (m : List Int) (x3 x4 x5 : Option S), σ = [some (.scr ns), some (.lst (I2 m)), some (.val (PD p)), x3, x4, x5])
    (fun i rem σ N hN h => ?_) (fun σ h => ?_) (List.range ((5 : Int) - 0).toNat) _ ⟨ms2, none, none, none, rfl⟩
  · obtain ⟨m, x3, x4, x5, rfl⟩ := h
    refine And.intro rfl ⟨m, p, rfl, hp, fun p2 sh2 m2 => ?_⟩
    refine And.intro rfl ⟨p2, rfl, sh2, ?_⟩
    refine And.intro rfl ⟨p2, rfl, sh2, And.intro show_bool (And.intro show_bool (And.intro ⟨dep_str, dep_str⟩ (ifb_nes ?_)))⟩
    refine And.intro rfl ⟨p2, rfl, sh2, ?_⟩
    cases hp2 : isP p2 with
    | true =>
      rw [if_pos rfl]
      exact And.intro ⟨dep_none, dep_none⟩ (ifb_f (by decide +kernel) (hN _ ⟨_, _, _, _, rfl⟩))
    | false =>
      rw [if_neg (by decide)]
      exact And.intro (room1 (by show 1 ≤ _; decide)) (And.intro ⟨by decide +kernel, by decide +kernel⟩ (ifb_f (by decide +kernel) (hN _ ⟨_, _, _, _, rfl⟩)))
  · obtain ⟨m, x3, x4, x5, rfl⟩ := h
    refine And.intro rfl ⟨p, rfl, sh, ?_⟩
    rw [hp, if_pos rfl]
    exact And.intro rfl q
end
theorem all_mk {l : PySem.W.OpenLaw} {w : World} {K : PySem.W.Frag} {h : Heap} {mg : Str → Option Value} {fa : Addr} (X : K.In h) (G : h.Ns mainGlobals mg) (hfa : mg "law" = some (.ref fa))
    {f0 : Addr} {od0 an0 : Option Addr} {sl0 : Array (Option Value)} {oc0 kV0 dc0 pm0 cd0 ct0 : Value}
    (a0 : PySem.W.nsIn K mainGlobals "is_instruction" = some (some (.ref f0)))
    (l0 : K.lookup f0 = some ⟨oc0, od0, .func (PySem.W.fnOf "is_instruction" "is_instruction" (defArgs s_isinstruction) (defBody s_isinstruction) (defScope s_isinstruction) .none kV0 dc0 pm0 an0 cd0 ct0), sl0⟩)
    (c0 : PySem.W.codeIn K cd0 "is_instruction" = true) (k0 : PySem.W.keepIn K (.ref f0) = true)
    {f1 : Addr} {od1 an1 : Option Addr} {sl1 : Array (Option Value)} {oc1 kV1 dc1 pm1 cd1 ct1 : Value}
    (a1 : PySem.W.nsIn K mainGlobals "is_program" = some (some (.ref f1)))
    (l1 : K.lookup f1 = some ⟨oc1, od1, .func (PySem.W.fnOf "is_program" "is_program" (defArgs s_isprogram) (defBody s_isprogram) (defScope s_isprogram) .none kV1 dc1 pm1 an1 cd1 ct1), sl1⟩)
    (c1 : PySem.W.codeIn K cd1 "is_program" = true) (k1 : PySem.W.keepIn K (.ref f1) = true)
    {f2 : Addr} {od2 an2 : Option Addr} {sl2 : Array (Option Value)} {oc2 kV2 dc2 pm2 cd2 ct2 : Value}
    (a2 : PySem.W.nsIn K mainGlobals "check_program" = some (some (.ref f2)))
    (l2 : K.lookup f2 = some ⟨oc2, od2, .func (PySem.W.fnOf "check_program" "check_program" (defArgs s_checkprogram) (defBody s_checkprogram) (defScope s_checkprogram) .none kV2 dc2 pm2 an2 cd2 ct2), sl2⟩)
    (c2 : PySem.W.codeIn K cd2 "check_program" = true) (k2 : PySem.W.keepIn K (.ref f2) = true)
    {f3 : Addr} {od3 an3 : Option Addr} {sl3 : Array (Option Value)} {oc3 kV3 dc3 pm3 cd3 ct3 : Value}
    (a3 : PySem.W.nsIn K mainGlobals "_law_asked" = some (some (.ref f3)))
    (l3 : K.lookup f3 = some ⟨oc3, od3, .func (PySem.W.fnOf "_law_asked" "_law_asked" (defArgs s_lawasked) (defBody s_lawasked) (defScope s_lawasked) .none kV3 dc3 pm3 an3 cd3 ct3), sl3⟩)
    (c3 : PySem.W.codeIn K cd3 "_law_asked" = true) (k3 : PySem.W.keepIn K (.ref f3) = true)
    {f4 : Addr} {od4 an4 : Option Addr} {sl4 : Array (Option Value)} {oc4 kV4 dc4 pm4 cd4 ct4 : Value}
    (a4 : PySem.W.nsIn K mainGlobals "_law_is_one" = some (some (.ref f4)))
    (l4 : K.lookup f4 = some ⟨oc4, od4, .func (PySem.W.fnOf "_law_is_one" "_law_is_one" (defArgs s_lawisone) (defBody s_lawisone) (defScope s_lawisone) .none kV4 dc4 pm4 an4 cd4 ct4), sl4⟩)
    (c4 : PySem.W.codeIn K cd4 "_law_is_one" = true) (k4 : PySem.W.keepIn K (.ref f4) = true)
    {f5 : Addr} {od5 an5 : Option Addr} {sl5 : Array (Option Value)} {oc5 kV5 dc5 pm5 cd5 ct5 : Value}
    (a5 : PySem.W.nsIn K mainGlobals "_law_is_program" = some (some (.ref f5)))
    (l5 : K.lookup f5 = some ⟨oc5, od5, .func (PySem.W.fnOf "_law_is_program" "_law_is_program" (defArgs s_lawisprogram) (defBody s_lawisprogram) (defScope s_lawisprogram) .none kV5 dc5 pm5 an5 cd5 ct5), sl5⟩)
    (c5 : PySem.W.codeIn K cd5 "_law_is_program" = true) (k5 : PySem.W.keepIn K (.ref f5) = true)
    {f6 : Addr} {od6 an6 : Option Addr} {sl6 : Array (Option Value)} {oc6 kV6 dc6 pm6 cd6 ct6 : Value}
    (a6 : PySem.W.nsIn K mainGlobals "_law_put" = some (some (.ref f6)))
    (l6 : K.lookup f6 = some ⟨oc6, od6, .func (PySem.W.fnOf "_law_put" "_law_put" (defArgs s_lawput) (defBody s_lawput) (defScope s_lawput) .none kV6 dc6 pm6 an6 cd6 ct6), sl6⟩)
    (c6 : PySem.W.codeIn K cd6 "_law_put" = true) (k6 : PySem.W.keepIn K (.ref f6) = true)
    {f7 : Addr} {od7 an7 : Option Addr} {sl7 : Array (Option Value)} {oc7 kV7 dc7 pm7 cd7 ct7 : Value}
    (a7 : PySem.W.nsIn K mainGlobals "_law_next" = some (some (.ref f7)))
    (l7 : K.lookup f7 = some ⟨oc7, od7, .func (PySem.W.fnOf "_law_next" "_law_next" (defArgs s_lawnext) (defBody s_lawnext) (defScope s_lawnext) .none kV7 dc7 pm7 an7 cd7 ct7), sl7⟩)
    (c7 : PySem.W.codeIn K cd7 "_law_next" = true) (k7 : PySem.W.keepIn K (.ref f7) = true)
    {f8 : Addr} {od8 an8 : Option Addr} {sl8 : Array (Option Value)} {oc8 kV8 dc8 pm8 cd8 ct8 : Value}
    (a8 : PySem.W.nsIn K mainGlobals "_law_pick" = some (some (.ref f8)))
    (l8 : K.lookup f8 = some ⟨oc8, od8, .func (PySem.W.fnOf "_law_pick" "_law_pick" (defArgs s_lawpick) (defBody s_lawpick) (defScope s_lawpick) .none kV8 dc8 pm8 an8 cd8 ct8), sl8⟩)
    (c8 : PySem.W.codeIn K cd8 "_law_pick" = true) (k8 : PySem.W.keepIn K (.ref f8) = true)
    {f9 : Addr} {od9 an9 : Option Addr} {sl9 : Array (Option Value)} {oc9 kV9 dc9 pm9 cd9 ct9 : Value}
    (a9 : PySem.W.nsIn K mainGlobals "_law_spoilt" = some (some (.ref f9)))
    (l9 : K.lookup f9 = some ⟨oc9, od9, .func (PySem.W.fnOf "_law_spoilt" "_law_spoilt" (defArgs s_lawspoilt) (defBody s_lawspoilt) (defScope s_lawspoilt) .none kV9 dc9 pm9 an9 cd9 ct9), sl9⟩)
    (c9 : PySem.W.codeIn K cd9 "_law_spoilt" = true) (k9 : PySem.W.keepIn K (.ref f9) = true)
    {f10 : Addr} {od10 an10 : Option Addr} {sl10 : Array (Option Value)} {oc10 kV10 dc10 pm10 cd10 ct10 : Value}
    (a10 : PySem.W.nsIn K mainGlobals "_law_bounds_hold" = some (some (.ref f10)))
    (l10 : K.lookup f10 = some ⟨oc10, od10, .func (PySem.W.fnOf "_law_bounds_hold" "_law_bounds_hold" (defArgs s_lawboundshold) (defBody s_lawboundshold) (defScope s_lawboundshold) .none kV10 dc10 pm10 an10 cd10 ct10), sl10⟩)
    (c10 : PySem.W.codeIn K cd10 "_law_bounds_hold" = true) (k10 : PySem.W.keepIn K (.ref f10) = true)
    {f11 : Addr} {od11 an11 : Option Addr} {sl11 : Array (Option Value)} {oc11 kV11 dc11 pm11 cd11 ct11 : Value}
    (a11 : PySem.W.nsIn K mainGlobals "_law_one" = some (some (.ref f11)))
    (l11 : K.lookup f11 = some ⟨oc11, od11, .func (PySem.W.fnOf "_law_one" "_law_one" (defArgs s_lawone) (defBody s_lawone) (defScope s_lawone) .none kV11 dc11 pm11 an11 cd11 ct11), sl11⟩)
    (c11 : PySem.W.codeIn K cd11 "_law_one" = true) (k11 : PySem.W.keepIn K (.ref f11) = true)
    {f12 : Addr} {od12 an12 : Option Addr} {sl12 : Array (Option Value)} {oc12 kV12 dc12 pm12 cd12 ct12 : Value}
    (a12 : PySem.W.nsIn K mainGlobals "_law_program" = some (some (.ref f12)))
    (l12 : K.lookup f12 = some ⟨oc12, od12, .func (PySem.W.fnOf "_law_program" "_law_program" (defArgs s_lawprogram) (defBody s_lawprogram) (defScope s_lawprogram) .none kV12 dc12 pm12 an12 cd12 ct12), sl12⟩)
    (c12 : PySem.W.codeIn K cd12 "_law_program" = true) (k12 : PySem.W.keepIn K (.ref f12) = true)
    {f13 : Addr} {od13 an13 : Option Addr} {sl13 : Array (Option Value)} {oc13 kV13 dc13 pm13 cd13 ct13 : Value}
    (a13 : PySem.W.nsIn K mainGlobals "_law_more" = some (some (.ref f13)))
    (l13 : K.lookup f13 = some ⟨oc13, od13, .func (PySem.W.fnOf "_law_more" "_law_more" (defArgs s_lawmore) (defBody s_lawmore) (defScope s_lawmore) .none kV13 dc13 pm13 an13 cd13 ct13), sl13⟩)
    (c13 : PySem.W.codeIn K cd13 "_law_more" = true) (k13 : PySem.W.keepIn K (.ref f13) = true)
    {f14 : Addr} {od14 an14 : Option Addr} {sl14 : Array (Option Value)} {oc14 kV14 dc14 pm14 cd14 ct14 : Value}
    (a14 : PySem.W.nsIn K mainGlobals "_law_any_program" = some (some (.ref f14)))
    (l14 : K.lookup f14 = some ⟨oc14, od14, .func (PySem.W.fnOf "_law_any_program" "_law_any_program" (defArgs s_lawanyprogram) (defBody s_lawanyprogram) (defScope s_lawanyprogram) .none kV14 dc14 pm14 an14 cd14 ct14), sl14⟩)
    (c14 : PySem.W.codeIn K cd14 "_law_any_program" = true) (k14 : PySem.W.keepIn K (.ref f14) = true)
    {f15 : Addr} {od15 an15 : Option Addr} {sl15 : Array (Option Value)} {oc15 kV15 dc15 pm15 cd15 ct15 : Value}
    (a15 : PySem.W.nsIn K mainGlobals "_law_number" = some (some (.ref f15)))
    (l15 : K.lookup f15 = some ⟨oc15, od15, .func (PySem.W.fnOf "_law_number" "_law_number" (defArgs s_lawnumber) (defBody s_lawnumber) (defScope s_lawnumber) .none kV15 dc15 pm15 an15 cd15 ct15), sl15⟩)
    (c15 : PySem.W.codeIn K cd15 "_law_number" = true) (k15 : PySem.W.keepIn K (.ref f15) = true)
    {f16 : Addr} {od16 an16 : Option Addr} {sl16 : Array (Option Value)} {oc16 kV16 dc16 pm16 cd16 ct16 : Value}
    (a16 : PySem.W.nsIn K mainGlobals "_law_draws" = some (some (.ref f16)))
    (l16 : K.lookup f16 = some ⟨oc16, od16, .func (PySem.W.fnOf "_law_draws" "_law_draws" (defArgs s_lawdraws) (defBody s_lawdraws) (defScope s_lawdraws) .none kV16 dc16 pm16 an16 cd16 ct16), sl16⟩)
    (c16 : PySem.W.codeIn K cd16 "_law_draws" = true) (k16 : PySem.W.keepIn K (.ref f16) = true)
    {f17 : Addr} {od17 an17 : Option Addr} {sl17 : Array (Option Value)} {oc17 kV17 dc17 pm17 cd17 ct17 : Value}
    (a17 : PySem.W.nsIn K mainGlobals "law" = some (some (.ref f17)))
    (l17 : K.lookup f17 = some ⟨oc17, od17, .func (PySem.W.fnOf "law" "law" (defArgs s_law) (defBody s_law) (defScope s_law) .none kV17 dc17 pm17 an17 cd17 ct17), sl17⟩)
    (c17 : PySem.W.codeIn K cd17 "law" = true) (k17 : PySem.W.keepIn K (.ref f17) = true)
    (z_all : PySem.W.nsIn K mainGlobals "all" = some none)
    (z_any : PySem.W.nsIn K mainGlobals "any" = some none)
    (z_int : PySem.W.nsIn K mainGlobals "int" = some none)
    (z_isinstance : PySem.W.nsIn K mainGlobals "isinstance" = some none)
    (z_len : PySem.W.nsIn K mainGlobals "len" = some none)
    (z_list : PySem.W.nsIn K mainGlobals "list" = some none)
    (z_range : PySem.W.nsIn K mainGlobals "range" = some none)
    (z_repr : PySem.W.nsIn K mainGlobals "repr" = some none)
    (z_tuple : PySem.W.nsIn K mainGlobals "tuple" = some none)
    {c_BadNumber : Addr} (y_BadNumber : PySem.W.nsIn K mainGlobals "BadNumber" = some (some (.ref c_BadNumber)))
    {c_CoheirError : Addr} (y_CoheirError : PySem.W.nsIn K mainGlobals "CoheirError" = some (some (.ref c_CoheirError)))
    {c_NotObservation : Addr} (y_NotObservation : PySem.W.nsIn K mainGlobals "NotObservation" = some (some (.ref c_NotObservation)))
    {c_NotProgram : Addr} (y_NotProgram : PySem.W.nsIn K mainGlobals "NotProgram" = some (some (.ref c_NotProgram)))
    {c_NotTable : Addr} (y_NotTable : PySem.W.nsIn K mainGlobals "NotTable" = some (some (.ref c_NotTable)))
    (xq_NotProgram : PySem.W.excIn K c_NotProgram [.type "ValueError", .type "Exception", .type "BaseException", .type "object"] "ValueError.__new__" = true)
    (xk_NotProgram : PySem.W.keepIn K (.ref c_NotProgram) = true)
    (xs_NotProgram : PySem.W.subIn K (.ref c_NotProgram) (.type "BaseException") = some true)
    (xt_NotProgram : PySem.W.typeIn K (.ref c_NotProgram) = some (.type "type"))
    (xh1_NotProgram : PySem.W.findIn K (.ref c_NotProgram) "__getattribute__" = some (some (.builtin "BaseException.__getattribute__")))
    (xh2_NotProgram : PySem.W.findIn K (.ref c_NotProgram) "__getattr__" = some none)
    (xh3_NotProgram : PySem.W.hasDictIn K c_NotProgram = true)
    (xh4_NotProgram : PySem.W.findIn K (.ref c_NotProgram) "__class__" = some (some (.builtin "object.__class__")))
    (xh5_NotProgram : PySem.W.mroIn K c_NotProgram (.type "object") = some true)
    (xh6 : PySem.W.specialIn K (.builtin "object.__class__") "__get__" = some (some (.builtin "getset_descriptor.__get__"))) (xh7 : PySem.W.takesIn K (.builtin "object.__class__") = some true)
    (vb_BadNumber : PySem.W.subIn K (.ref c_BadNumber) (.type "BaseException") = some true)
    (vi_BadNumber : PySem.W.isClsIn K c_BadNumber = true)
    (vt_BadNumber : PySem.W.typeIn K (.ref c_BadNumber) = some (.type "type"))
    (vb_CoheirError : PySem.W.subIn K (.ref c_CoheirError) (.type "BaseException") = some true)
    (vi_CoheirError : PySem.W.isClsIn K c_CoheirError = true)
    (vt_CoheirError : PySem.W.typeIn K (.ref c_CoheirError) = some (.type "type"))
    (vb_NotObservation : PySem.W.subIn K (.ref c_NotObservation) (.type "BaseException") = some true)
    (vi_NotObservation : PySem.W.isClsIn K c_NotObservation = true)
    (vt_NotObservation : PySem.W.typeIn K (.ref c_NotObservation) = some (.type "type"))
    (vb_NotProgram : PySem.W.subIn K (.ref c_NotProgram) (.type "BaseException") = some true)
    (vi_NotProgram : PySem.W.isClsIn K c_NotProgram = true)
    (vt_NotProgram : PySem.W.typeIn K (.ref c_NotProgram) = some (.type "type"))
    (vb_NotTable : PySem.W.subIn K (.ref c_NotTable) (.type "BaseException") = some true)
    (vi_NotTable : PySem.W.isClsIn K c_NotTable = true)
    (vt_NotTable : PySem.W.typeIn K (.ref c_NotTable) = some (.type "type"))
    (vs_NotProgram_BadNumber : PySem.W.subIn K (.ref c_NotProgram) (.ref c_BadNumber) = some false)
    (vn_NotProgram_BadNumber : (Value.ref c_NotProgram == Value.ref c_BadNumber) = false)
    (vs_NotProgram_CoheirError : PySem.W.subIn K (.ref c_NotProgram) (.ref c_CoheirError) = some true)
    (vs_NotProgram_NotObservation : PySem.W.subIn K (.ref c_NotProgram) (.ref c_NotObservation) = some false)
    (vn_NotProgram_NotObservation : (Value.ref c_NotProgram == Value.ref c_NotObservation) = false)
    (vs_NotProgram_NotProgram : PySem.W.subIn K (.ref c_NotProgram) (.ref c_NotProgram) = some true)
    (vs_NotProgram_NotTable : PySem.W.subIn K (.ref c_NotProgram) (.ref c_NotTable) = some false)
    (vn_NotProgram_NotTable : (Value.ref c_NotProgram == Value.ref c_NotTable) = false)
    {t_MANY_LINES : Tok} (y_MANY_LINES : PySem.W.nsIn K mainGlobals "MANY_LINES" = some (some (.int 4 t_MANY_LINES)))
    {t_MOST_CORES : Tok} (y_MOST_CORES : PySem.W.nsIn K mainGlobals "MOST_CORES" = some (some (.int 12 t_MOST_CORES)))
    {t_MOST_INSTRUCTIONS : Tok} (y_MOST_INSTRUCTIONS : PySem.W.nsIn K mainGlobals "MOST_INSTRUCTIONS" = some (some (.int 24 t_MOST_INSTRUCTIONS)))
    {t_MOST_VALUE : Tok} (y_MOST_VALUE : PySem.W.nsIn K mainGlobals "MOST_VALUE" = some (some (.int 99 t_MOST_VALUE)))
    {c_PARTS : Addr} (y_PARTS : PySem.W.nsIn K mainGlobals "PARTS" = some (some (.ref c_PARTS)))
    (t1_PARTS : PyProof.Rows.KTD.tabLook PyProof.Rows.KTD.flatLooks (fun b => List.lookup b K) c_PARTS ([("load", .int 2), ("store", .int 3), ("swap", .int 3), ("fence", .int 1)] : List (Str × PyData)) = true)
    (t2_PARTS : PyProof.Rows.KTD.hashesOf (fun b => List.lookup b K) c_PARTS = ([("load", .int 2), ("store", .int 3), ("swap", .int 3), ("fence", .int 1)] : List (Str × PyData)).map fun p => (PySem.strKind l.prog w).hash p.1)
    : ∃ fd : FuncData, (∀ (s : Shared) (v : Value), BindsTo s fd ⟨[v], []⟩ [("script", v)]) ∧ ∀ base : Heap, K.In base → base.Ns mainGlobals mg → FnG l.prog w K mg base 5 fa fd ["script"] sp_law := by
  have e := hfa.symm.trans (PySem.W.mg_of X G a17)
  cases e
  have F0 := fun_mk (st := s_isinstruction) l0 c0 k0
  have F1 := fun_mk (st := s_isprogram) l1 c1 k1
  have F2 := fun_mk (st := s_checkprogram) l2 c2 k2
  have F3 := fun_mk (st := s_lawasked) l3 c3 k3
  have F4 := fun_mk (st := s_lawisone) l4 c4 k4
  have F5 := fun_mk (st := s_lawisprogram) l5 c5 k5
  have F6 := fun_mk (st := s_lawput) l6 c6 k6
  have F7 := fun_mk (st := s_lawnext) l7 c7 k7
  have F8 := fun_mk (st := s_lawpick) l8 c8 k8
  have F9 := fun_mk (st := s_lawspoilt) l9 c9 k9
  have F10 := fun_mk (st := s_lawboundshold) l10 c10 k10
  have F11 := fun_mk (st := s_lawone) l11 c11 k11
  have F12 := fun_mk (st := s_lawprogram) l12 c12 k12
  have F13 := fun_mk (st := s_lawmore) l13 c13 k13
  have F14 := fun_mk (st := s_lawanyprogram) l14 c14 k14
  have F15 := fun_mk (st := s_lawnumber) l15 c15 k15
  have F16 := fun_mk (st := s_lawdraws) l16 c16 k16
  have F17 := fun_mk (st := s_law) l17 c17 k17
  refine ⟨_, fun s v => .of_eq rfl, fun base _ _ => ok_law {
    a_isinstruction := f0, d_isinstruction := _, F_isinstruction := F0, b_isinstruction := F0.binds (ps := ["one"]) (fun _ _ _ _ _ _ us hl => match us, hl with | [_], _ => rfl), g_isinstruction := PySem.W.mg_of X G a0
    a_isprogram := f1, d_isprogram := _, F_isprogram := F1, b_isprogram := F1.binds (ps := ["program"]) (fun _ _ _ _ _ _ us hl => match us, hl with | [_], _ => rfl), g_isprogram := PySem.W.mg_of X G a1
    a_checkprogram := f2, d_checkprogram := _, F_checkprogram := F2, b_checkprogram := F2.binds (ps := ["program"]) (fun _ _ _ _ _ _ us hl => match us, hl with | [_], _ => rfl), g_checkprogram := PySem.W.mg_of X G a2
    a_lawasked := f3, d_lawasked := _, F_lawasked := F3, b_lawasked := F3.binds (ps := ["program"]) (fun _ _ _ _ _ _ us hl => match us, hl with | [_], _ => rfl), g_lawasked := PySem.W.mg_of X G a3
    a_lawisone := f4, d_lawisone := _, F_lawisone := F4, b_lawisone := F4.binds (ps := ["one"]) (fun _ _ _ _ _ _ us hl => match us, hl with | [_], _ => rfl), g_lawisone := PySem.W.mg_of X G a4
    a_lawisprogram := f5, d_lawisprogram := _, F_lawisprogram := F5, b_lawisprogram := F5.binds (ps := ["program"]) (fun _ _ _ _ _ _ us hl => match us, hl with | [_], _ => rfl), g_lawisprogram := PySem.W.mg_of X G a5
    a_lawput := f6, d_lawput := _, F_lawput := F6, b_lawput := F6.binds (ps := ["parts", "at", "part"]) (fun _ _ _ _ _ _ us hl => match us, hl with | [_, _, _], _ => rfl), g_lawput := PySem.W.mg_of X G a6
    a_lawnext := f7, d_lawnext := _, F_lawnext := F7, b_lawnext := F7.binds (ps := ["draws"]) (fun _ _ _ _ _ _ us hl => match us, hl with | [_], _ => rfl), g_lawnext := PySem.W.mg_of X G a7
    a_lawpick := f8, d_lawpick := _, F_lawpick := F8, b_lawpick := F8.binds (ps := ["draws", "some"]) (fun _ _ _ _ _ _ us hl => match us, hl with | [_, _], _ => rfl), g_lawpick := PySem.W.mg_of X G a8
    a_lawspoilt := f9, d_lawspoilt := _, F_lawspoilt := F9, b_lawspoilt := F9.binds (ps := ["draws", "program"]) (fun _ _ _ _ _ _ us hl => match us, hl with | [_, _], _ => rfl), g_lawspoilt := PySem.W.mg_of X G a9
    a_lawboundshold := f10, d_lawboundshold := _, F_lawboundshold := F10, b_lawboundshold := F10.binds (ps := []) (fun _ _ _ _ _ _ us hl => match us, hl with | [], _ => rfl), g_lawboundshold := PySem.W.mg_of X G a10
    a_lawone := f11, d_lawone := _, F_lawone := F11, b_lawone := F11.binds (ps := ["draws", "lines"]) (fun _ _ _ _ _ _ us hl => match us, hl with | [_, _], _ => rfl), g_lawone := PySem.W.mg_of X G a11
    a_lawprogram := f12, d_lawprogram := _, F_lawprogram := F12, b_lawprogram := F12.binds (ps := ["draws", "cores", "most", "lines"]) (fun _ _ _ _ _ _ us hl => match us, hl with | [_, _, _, _], _ => rfl), g_lawprogram := PySem.W.mg_of X G a12
    a_lawmore := f13, d_lawmore := _, F_lawmore := F13, b_lawmore := F13.binds (ps := ["draws", "many"]) (fun _ _ _ _ _ _ us hl => match us, hl with | [_, _], _ => rfl), g_lawmore := PySem.W.mg_of X G a13
    a_lawanyprogram := f14, d_lawanyprogram := _, F_lawanyprogram := F14, b_lawanyprogram := F14.binds (ps := ["draws"]) (fun _ _ _ _ _ _ us hl => match us, hl with | [_], _ => rfl), g_lawanyprogram := PySem.W.mg_of X G a14
    a_lawnumber := f15, d_lawnumber := _, F_lawnumber := F15, b_lawnumber := F15.binds (ps := ["cell"]) (fun _ _ _ _ _ _ us hl => match us, hl with | [_], _ => rfl), g_lawnumber := PySem.W.mg_of X G a15
    a_lawdraws := f16, d_lawdraws := _, F_lawdraws := F16, b_lawdraws := F16.binds (ps := ["script"]) (fun _ _ _ _ _ _ us hl => match us, hl with | [_], _ => rfl), g_lawdraws := PySem.W.mg_of X G a16
    a_law := fa, d_law := _, F_law := F17, b_law := F17.binds (ps := ["script"]) (fun _ _ _ _ _ _ us hl => match us, hl with | [_], _ => rfl), g_law := PySem.W.mg_of X G a17
    m_all := PySem.W.mg_none_of X G z_all
    m_any := PySem.W.mg_none_of X G z_any
    m_int := PySem.W.mg_none_of X G z_int
    m_isinstance := PySem.W.mg_none_of X G z_isinstance
    m_len := PySem.W.mg_none_of X G z_len
    m_list := PySem.W.mg_none_of X G z_list
    m_range := PySem.W.mg_none_of X G z_range
    m_repr := PySem.W.mg_none_of X G z_repr
    m_tuple := PySem.W.mg_none_of X G z_tuple
    A_BadNumber := c_BadNumber, g_BadNumber := PySem.W.mg_of X G y_BadNumber
    A_CoheirError := c_CoheirError, g_CoheirError := PySem.W.mg_of X G y_CoheirError
    A_NotObservation := c_NotObservation, g_NotObservation := PySem.W.mg_of X G y_NotObservation
    A_NotProgram := c_NotProgram, g_NotProgram := PySem.W.mg_of X G y_NotProgram
    A_NotTable := c_NotTable, g_NotTable := PySem.W.mg_of X G y_NotTable
    x_NotProgram := ⟨PySem.W.mg_of X G y_NotProgram, xq_NotProgram, xk_NotProgram, xs_NotProgram, xt_NotProgram⟩, e_NotProgram := ⟨xh1_NotProgram, xh2_NotProgram, xs_NotProgram, xh3_NotProgram, xh4_NotProgram, xh6, xh7, xh5_NotProgram⟩
    exm_NotProgram_CoheirError := exm_mk vb_CoheirError vi_CoheirError vt_CoheirError vs_NotProgram_CoheirError
    kit_NotProgram_BadNumber := kit_mk vi_BadNumber vt_BadNumber vs_NotProgram_BadNumber (.inr vn_NotProgram_BadNumber)
    kit_NotProgram_NotObservation := kit_mk vi_NotObservation vt_NotObservation vs_NotProgram_NotObservation (.inr vn_NotProgram_NotObservation)
    kit_NotProgram_NotProgram := kit_mk vi_NotProgram vt_NotProgram vs_NotProgram_NotProgram (.inl rfl)
    kit_NotProgram_NotTable := kit_mk vi_NotTable vt_NotTable vs_NotProgram_NotTable (.inr vn_NotProgram_NotTable)
    t_MANY_LINES := t_MANY_LINES, g_MANY_LINES := PySem.W.mg_of X G y_MANY_LINES
    t_MOST_CORES := t_MOST_CORES, g_MOST_CORES := PySem.W.mg_of X G y_MOST_CORES
    t_MOST_INSTRUCTIONS := t_MOST_INSTRUCTIONS, g_MOST_INSTRUCTIONS := PySem.W.mg_of X G y_MOST_INSTRUCTIONS
    t_MOST_VALUE := t_MOST_VALUE, g_MOST_VALUE := PySem.W.mg_of X G y_MOST_VALUE
    A_PARTS := c_PARTS, g_PARTS := PySem.W.mg_of X G y_PARTS, d_PARTS := fun h hk => PySem.W.kt_tab_in l.prog w hk t1_PARTS (by decide +kernel) t2_PARTS
  }⟩
end K12
open PySem PySem.W PyProof.Rows
set_option maxHeartbeats 0 in
theorem PySem.Challenge.cw_coheir_k12_programs_and_what_is_none_holds : PySem.Challenge.rw_coheir_k12_programs_and_what_is_none.Holds := by
  w_on; o_law; k_head; (case hw => w_witness2)
  k_fill
  refine SV.walkG (l := PySem.Challenge.rw_coheir_k12_programs_and_what_is_none) (n := 63) (k := 5) (x := "script") (sp := K12.sp_law) rfl (by decide) rfl ⟨rfl, by decide, by decide⟩ (fun w h Y => PySem.W.kIn_of Y) ?F (fun ns hl => K12.sp_start ns hl)
  case F =>
    intro w mg fa h KX G hmg
    refine' K12.all_mk KX G hmg ?a0 ?l0 ?c0 ?k0 ?a1 ?l1 ?c1 ?k1 ?a2 ?l2 ?c2 ?k2 ?a3 ?l3 ?c3 ?k3 ?a4 ?l4 ?c4 ?k4 ?a5 ?l5 ?c5 ?k5 ?a6 ?l6 ?c6 ?k6 ?a7 ?l7 ?c7 ?k7 ?a8 ?l8 ?c8 ?k8 ?a9 ?l9 ?c9 ?k9 ?a10 ?l10 ?c10 ?k10 ?a11 ?l11 ?c11 ?k11 ?a12 ?l12 ?c12 ?k12 ?a13 ?l13 ?c13 ?k13 ?a14 ?l14 ?c14 ?k14 ?a15 ?l15 ?c15 ?k15 ?a16 ?l16 ?c16 ?k16 ?a17 ?l17 ?c17 ?k17 ?z_all ?z_any ?z_int ?z_isinstance ?z_len ?z_list ?z_range ?z_repr ?z_tuple ?y_BadNumber ?y_CoheirError ?y_NotObservation ?y_NotProgram ?y_NotTable ?xq_NotProgram ?xk_NotProgram ?xs_NotProgram ?xt_NotProgram ?xh1_NotProgram ?xh2_NotProgram ?xh3_NotProgram ?xh4_NotProgram ?xh5_NotProgram ?xh6 ?xh7 ?vb_BadNumber ?vi_BadNumber ?vt_BadNumber ?vb_CoheirError ?vi_CoheirError ?vt_CoheirError ?vb_NotObservation ?vi_NotObservation ?vt_NotObservation ?vb_NotProgram ?vi_NotProgram ?vt_NotProgram ?vb_NotTable ?vi_NotTable ?vt_NotTable ?vs_NotProgram_BadNumber ?vn_NotProgram_BadNumber ?vs_NotProgram_CoheirError ?vs_NotProgram_NotObservation ?vn_NotProgram_NotObservation ?vs_NotProgram_NotProgram ?vs_NotProgram_NotTable ?vn_NotProgram_NotTable ?y_MANY_LINES ?y_MOST_CORES ?y_MOST_INSTRUCTIONS ?y_MOST_VALUE ?y_PARTS ?t1_PARTS ?t2_PARTS
    (case a0 => k_is)
    (case l0 => k_is)
    (case c0 => k_is)
    (case k0 => k_is)
    (case a1 => k_is)
    (case l1 => k_is)
    (case c1 => k_is)
    (case k1 => k_is)
    (case a2 => k_is)
    (case l2 => k_is)
    (case c2 => k_is)
    (case k2 => k_is)
    (case a3 => k_is)
    (case l3 => k_is)
    (case c3 => k_is)
    (case k3 => k_is)
    (case a4 => k_is)
    (case l4 => k_is)
    (case c4 => k_is)
    (case k4 => k_is)
    (case a5 => k_is)
    (case l5 => k_is)
    (case c5 => k_is)
    (case k5 => k_is)
    (case a6 => k_is)
    (case l6 => k_is)
    (case c6 => k_is)
    (case k6 => k_is)
    (case a7 => k_is)
    (case l7 => k_is)
    (case c7 => k_is)
    (case k7 => k_is)
    (case a8 => k_is)
    (case l8 => k_is)
    (case c8 => k_is)
    (case k8 => k_is)
    (case a9 => k_is)
    (case l9 => k_is)
    (case c9 => k_is)
    (case k9 => k_is)
    (case a10 => k_is)
    (case l10 => k_is)
    (case c10 => k_is)
    (case k10 => k_is)
    (case a11 => k_is)
    (case l11 => k_is)
    (case c11 => k_is)
    (case k11 => k_is)
    (case a12 => k_is)
    (case l12 => k_is)
    (case c12 => k_is)
    (case k12 => k_is)
    (case a13 => k_is)
    (case l13 => k_is)
    (case c13 => k_is)
    (case k13 => k_is)
    (case a14 => k_is)
    (case l14 => k_is)
    (case c14 => k_is)
    (case k14 => k_is)
    (case a15 => k_is)
    (case l15 => k_is)
    (case c15 => k_is)
    (case k15 => k_is)
    (case a16 => k_is)
    (case l16 => k_is)
    (case c16 => k_is)
    (case k16 => k_is)
    (case a17 => k_is)
    (case l17 => k_is)
    (case c17 => k_is)
    (case k17 => k_is)
    (case z_all => k_is)
    (case z_any => k_is)
    (case z_int => k_is)
    (case z_isinstance => k_is)
    (case z_len => k_is)
    (case z_list => k_is)
    (case z_range => k_is)
    (case z_repr => k_is)
    (case z_tuple => k_is)
    (case y_BadNumber => k_is)
    (case y_CoheirError => k_is)
    (case y_NotObservation => k_is)
    (case y_NotProgram => k_is)
    (case y_NotTable => k_is)
    (case xq_NotProgram => k_exc)
    (case xk_NotProgram => k_is)
    (case xs_NotProgram => k_is)
    (case xt_NotProgram => k_is)
    (case xh1_NotProgram => k_is)
    (case xh2_NotProgram => k_is)
    (case xh3_NotProgram => k_is)
    (case xh4_NotProgram => k_is)
    (case xh5_NotProgram => k_is)
    (case xh6 => k_is)
    (case xh7 => k_is)
    (case vb_BadNumber => k_is)
    (case vi_BadNumber => k_is)
    (case vt_BadNumber => k_is)
    (case vb_CoheirError => k_is)
    (case vi_CoheirError => k_is)
    (case vt_CoheirError => k_is)
    (case vb_NotObservation => k_is)
    (case vi_NotObservation => k_is)
    (case vt_NotObservation => k_is)
    (case vb_NotProgram => k_is)
    (case vi_NotProgram => k_is)
    (case vt_NotProgram => k_is)
    (case vb_NotTable => k_is)
    (case vi_NotTable => k_is)
    (case vt_NotTable => k_is)
    (case vs_NotProgram_BadNumber => first | rfl | k_is)
    (case vn_NotProgram_BadNumber => first | rfl | decide | k_is)
    (case vs_NotProgram_CoheirError => first | rfl | k_is)
    (case vs_NotProgram_NotObservation => first | rfl | k_is)
    (case vn_NotProgram_NotObservation => first | rfl | decide | k_is)
    (case vs_NotProgram_NotProgram => first | rfl | k_is)
    (case vs_NotProgram_NotTable => first | rfl | k_is)
    (case vn_NotProgram_NotTable => first | rfl | decide | k_is)
    (case y_MANY_LINES => k_is)
    (case y_MOST_CORES => k_is)
    (case y_MOST_INSTRUCTIONS => k_is)
    (case y_MOST_VALUE => k_is)
    (case y_PARTS => k_is)
    (case t1_PARTS => first | k_is | rfl | decide +kernel)
    (case t2_PARTS => first | k_is | rfl | decide +kernel)
