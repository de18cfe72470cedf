import PyProof.Rows.All
import Wide.All
import OpenK.AllK
import Wide.FinOn
import HandS.ForMost
import HandS.Exc
import HandS.TryOnly
import HandS.ExcOwn
import HandS.WordsExc
import HandS.AnyAll
import HandS.HeadHook1
import HandS.HeadHook2
import HandS.Deep
import HandS.RevTup
import KE.DataCmp
import KE.SortData
import HandS.Lambda
import KE.GoesEnum
import KE.GoesRaise
import HandS.GenList
import PyProof.TupleOfGen
import HandS.TupAny
import HandS.IsInst
import HandS.Text
import HandS.RaiseMore
import HandS.FStr
import HandS.StrMore
import HandS.StrSplit
import HandS.HeadHook4
import HandS.HeadWalk
import PyProof.ExcBaseAll.ValueError
import PyProof.SumAny
import KE.DataMinMax
import HandS.Style
import HandS.Conv
import HandS.Head0
import HandS.Head1
import HandS.Head2
import HandS.HeadEnd
import KE.KStateDown
import PySem.Challenge.RW_resolvestack_k01_numbers_of_releases
section
set_option Elab.async false
set_option linter.all false
set_option maxRecDepth 100000
set_option autoImplicit false
set_option maxHeartbeats 4000000
namespace PM
open PySem PySem.Spec PyProof.Rows L2

/-- value trees: what never changes is told whole, what changes by its number -/
inductive PV where
  | non | bl (b : Bool) | int (i : Int) | str (s : Str)
  | tup (xs : List PV) | lst (xs : List PV)
  | ref (i : Nat) | fn (a : Addr)
/-- objects that change -/
inductive MO where
  | lst (xs : List PV)
abbrev Hm := List MO
inductive Res (α : Type) where
  | ok (v : α) (h : Hm)
  | exc (c : Str) (h : Hm)
  | stuck
def Res.bind {α β : Type} (r : Res α) (k : α → Hm → Res β) : Res β := match r with
  | .ok v h => k v h
  | .exc c h => .exc c h
  | .stuck => .stuck
/-- what a name holds: nothing, a value, a list of its own that no one else holds -/
inductive Slot where
  | no | val (v : PV) | own (xs : List PV)
abbrev En := List Slot
abbrev M (α : Type) := En → Hm → Res α

mutual
inductive RV (K : PySem.W.Frag) (ρ : List Addr) (F : Hp) : PV → V → Prop
  | non : RV K ρ F .non .non
  | bl (b : Bool) : RV K ρ F (.bl b) (.bl b)
  | int (i : Int) : RV K ρ F (.int i) (.int i)
  | str (s : Str) : RV K ρ F (.str s) (.str s)
  | tup {a : Addr} {xs : List V} {ds : List PV} : SqT K F a xs → RVs K ρ F ds xs → RV K ρ F (.tup ds) (.ref a)
  | lst {a : Addr} {xs : List V} {ds : List PV} : SqL K F a xs → RVs K ρ F ds xs → RV K ρ F (.lst ds) (.ref a)
  | ref {i : Nat} {a : Addr} : ρ[i]? = some a → RV K ρ F (.ref i) (.ref a)
  | fn (a : Addr) : RV K ρ F (.fn a) (.ref a)
inductive RVs (K : PySem.W.Frag) (ρ : List Addr) (F : Hp) : List PV → List V → Prop
  | nil : RVs K ρ F [] []
  | cons {d : PV} {ds : List PV} {v : V} {vs : List V} : RV K ρ F d v → RVs K ρ F ds vs → RVs K ρ F (d :: ds) (v :: vs)
end

def notTbl (o : HO) : Prop := ∀ ps, o ≠ .tbl ps
/-- a dict may be locked for a while -/
def isD : HO → Bool
  | .dK _ => true
  | .dT _ => true
  | _ => false
def LeR (F H : Hp) : Prop := ∀ p o, F p = some o → H p = some o ∨ (isD o = true ∧ ∃ ob, H p = some (.frz ob o))

section
variable {K : PySem.W.Frag} {ρ ρ' : List Addr} {F F' H H' : Hp}
theorem Rd.up {a : Addr} {u : HO} (h : ∀ p o, F p = some o → F' p = some o) (r : Rd F a u) : Rd F' a u := by
  rcases r with r | ⟨o, r⟩
  · exact .inl (h _ _ r)
  · exact .inr ⟨o, h _ _ r⟩
theorem sqL_up {a : Addr} {xs : List V} (h : ∀ p o, F p = some o → F' p = some o) (q : SqL K F a xs) : SqL K F' a xs := by
  rcases q with q | q
  · exact .inl (Rd.up h q)
  · exact .inr q
theorem sqT_up {a : Addr} {xs : List V} (h : ∀ p o, F p = some o → F' p = some o) (q : SqT K F a xs) : SqT K F' a xs := by
  rcases q with q | q
  · exact .inl (Rd.up h q)
  · exact .inr q
theorem LeR.at {a : Addr} {o : HO} (l : LeR F H) (h : F a = some o) (n : isD o = false) : H a = some o := by
  rcases l a o h with e | ⟨d, _⟩
  · exact e
  · rw [n] at d; cases d
theorem sqL_le {a : Addr} {xs : List V} (l : LeR F H) (q : SqL K F a xs) : SqL K H a xs := by
  rcases q with (q | ⟨o, q⟩) | q
  · exact .inl (.inl (l.at q rfl))
  · exact .inl (.inr ⟨o, l.at q rfl⟩)
  · exact .inr q
theorem sqT_le {a : Addr} {xs : List V} (l : LeR F H) (q : SqT K F a xs) : SqT K H a xs := by
  rcases q with (q | ⟨o, q⟩) | q
  · exact .inl (.inl (l.at q rfl))
  · exact .inl (.inr ⟨o, l.at q rfl⟩)
  · exact .inr q
mutual
theorem RV.up (hr : ∀ (i : Nat) (a : Addr), ρ[i]? = some a → ρ'[i]? = some a) (h : ∀ p o, F p = some o → F' p = some o) : ∀ (d : PV) (v : V), RV K ρ F d v → RV K ρ' F' d v
  | .non, _, r => by cases r; exact .non
  | .bl b, _, r => by cases r; exact .bl b
  | .int b, _, r => by cases r; exact .int b
  | .str b, _, r => by cases r; exact .str b
  | .tup ds, _, r => by cases r with | tup a b => exact .tup (sqT_up h a) (RVs.up hr h ds _ b)
  | .lst ds, _, r => by cases r with | lst a b => exact .lst (sqL_up h a) (RVs.up hr h ds _ b)
  | .ref i, _, r => by cases r with | ref e => exact .ref (hr _ _ e)
  | .fn a, _, r => by cases r; exact .fn a
theorem RVs.up (hr : ∀ (i : Nat) (a : Addr), ρ[i]? = some a → ρ'[i]? = some a) (h : ∀ p o, F p = some o → F' p = some o) : ∀ (ds : List PV) (vs : List V), RVs K ρ F ds vs → RVs K ρ' F' ds vs
  | [], _, r => by cases r; exact .nil
  | d :: ds, _, r => by cases r with | cons a b => exact .cons (RV.up hr h d _ a) (RVs.up hr h ds _ b)
end
theorem RVs.len : ∀ {ds : List PV} {vs : List V}, RVs K ρ F ds vs → ds.length = vs.length
  | [], _, r => by cases r; rfl
  | d :: ds, _, r => by cases r with | cons a b => simp [RVs.len b]
theorem RVs.get : ∀ {ds : List PV} {vs : List V} {i : Nat} {d : PV}, RVs K ρ F ds vs → ds[i]? = some d → ∃ v, vs[i]? = some v ∧ RV K ρ F d v
  | [], _, i, _, _, e => by simp at e
  | d :: ds, _, 0, _, r, e => by
    cases r with | cons a b => simp at e; subst e; exact ⟨_, rfl, a⟩
  | d :: ds, _, i + 1, _, r, e => by
    cases r with | cons a b =>
      obtain ⟨v, h1, h2⟩ := RVs.get (i := i) b (by simpa using e)
      exact ⟨v, by simpa using h1, h2⟩
theorem RVs.getv : ∀ {ds : List PV} {vs : List V} {i : Nat} {v : V}, RVs K ρ F ds vs → vs[i]? = some v → ∃ d, ds[i]? = some d ∧ RV K ρ F d v := fun {ds vs i v} r e => by
  have hl := r.len
  obtain ⟨hi, _⟩ := List.getElem?_eq_some_iff.mp e
  have hd : ds[i]? = some (ds[i]'(by omega)) := by simp [hl, hi]
  obtain ⟨w, h1, h2⟩ := r.get hd
  rw [e] at h1; cases h1
  exact ⟨_, hd, h2⟩
theorem RVs.app : ∀ {ds es : List PV} {vs ws : List V}, RVs K ρ F ds vs → RVs K ρ F es ws → RVs K ρ F (ds ++ es) (vs ++ ws)
  | [], _, _, _, a, b => by cases a; exact b
  | d :: ds, _, _, _, a, b => by cases a with | cons p q => exact .cons p (RVs.app q b)
theorem RVs.take : ∀ {ds : List PV} {vs : List V} (n : Nat), RVs K ρ F ds vs → RVs K ρ F (ds.take n) (vs.take n)
  | [], _, n, a => by cases a; simp; exact .nil
  | d :: ds, _, 0, a => by simp; exact .nil
  | d :: ds, _, n + 1, a => by cases a with | cons p q => exact .cons p (RVs.take n q)
theorem RVs.drop : ∀ {ds : List PV} {vs : List V} (n : Nat), RVs K ρ F ds vs → RVs K ρ F (ds.drop n) (vs.drop n)
  | [], _, n, a => by cases a; simp; exact .nil
  | d :: ds, _, 0, a => a
  | d :: ds, _, n + 1, a => by cases a with | cons p q => exact RVs.drop n q
theorem RVs.set : ∀ {ds : List PV} {vs : List V} (i : Nat) {d : PV} {v : V}, RVs K ρ F ds vs → RV K ρ F d v → RVs K ρ F (ds.set i d) (vs.set i v)
  | [], _, n, _, _, a, _ => by cases a; exact .nil
  | d :: ds, _, 0, _, _, a, r => by cases a with | cons p q => exact .cons r q
  | d :: ds, _, n + 1, _, _, a, r => by cases a with | cons p q => exact .cons p (RVs.set n q r)
theorem RVs.rev : ∀ {ds : List PV} {vs : List V}, RVs K ρ F ds vs → RVs K ρ F ds.reverse vs.reverse
  | [], _, a => by cases a; exact .nil
  | d :: ds, _, a => by
    cases a with | cons p q =>
      rw [List.reverse_cons, List.reverse_cons]
      exact (RVs.rev q).app (.cons p .nil)
end

/-- what stands at a number -/
inductive RO (K : PySem.W.Frag) (ρ : List Addr) (F : Hp) : MO → HO → Prop
  | lst {ds : List PV} {xs : List V} : RVs K ρ F ds xs → RO K ρ F (.lst ds) (.lst xs)

theorem nd_ix {α : Type} : ∀ {l : List α} {i j : Nat} {x : α}, l.Nodup → l[i]? = some x → l[j]? = some x → i = j
  | [], _, _, _, _, h, _ => by simp at h
  | a :: l, 0, 0, _, _, _, _ => rfl
  | a :: l, 0, j + 1, x, nd, h, h' => by
    simp at h h'; subst h
    exact absurd (List.mem_of_getElem? h') (List.nodup_cons.mp nd).1
  | a :: l, i + 1, 0, x, nd, h, h' => by
    simp at h h'; subst h'
    exact absurd (List.mem_of_getElem? h) (List.nodup_cons.mp nd).1
  | a :: l, i + 1, j + 1, x, nd, h, h' => by
    have := nd_ix (i := i) (j := j) (List.nodup_cons.mp nd).2 (by simpa using h) (by simpa using h')
    omega
/-- tables of code objects: of generator expressions, of lambdas (with the name that the latter bear) -/
structure TBs where
  g : List Addr
  l : List (Addr × Str)
instance : Membership Addr TBs := ⟨fun t P => P ∈ t.g⟩
structure Lm (Tb : TBs) (F H : Hp) : Prop where
  lt : LamX.Tabs Tb.l H
  lf : ∀ p ∈ Tb.l, F p.1 = none
  dj : ∀ p ∈ Tb.l, p.1 ∉ Tb.g
theorem Lm.mono {Tb : TBs} {F F' H H' : Hp} (m : Lm Tb F H) (k : ∀ b o, H b = some o → (∀ xs, o ≠ .lst xs) → (b ∉ Tb.g ∨ notTbl o) → H' b = some o) (f : ∀ b, H b ≠ none → F b = none → F' b = none) : Lm Tb F' H' := by
  refine ⟨fun p hp => ?_, fun p hp => ?_, m.dj⟩
  · obtain ⟨ps, h1, h2, h3⟩ := m.lt p hp
    refine ⟨ps, k _ _ h1 (fun xs z => by cases z) (.inl (m.dj p hp)), h2, fun pos cv hc => ?_⟩
    obtain ⟨c, e1, e2⟩ := h3 pos cv hc
    exact ⟨c, e1, k _ _ e2 (fun xs z => by unfold LamX.CodeO at z; cases z) (.inr fun ps z => LamX.codeO_ne ps z)⟩
  · obtain ⟨ps, h1, _⟩ := m.lt p hp
    exact f _ (by rw [h1]; simp) (m.lf p hp)
structure Sim (K : PySem.W.Frag) (Tb : TBs) (ρ : List Addr) (F : Hp) (h : Hm) (H : Hp) : Prop where
  le : LeR F H
  len : ρ.length = h.length
  nd : ρ.Nodup
  off : ∀ p ∈ ρ, F p = none
  ob : ∀ (i : Nat) o, h[i]? = some o → ∃ p O, ρ[i]? = some p ∧ H p = some O ∧ RO K ρ F o O
  tb : ∀ P ∈ Tb, GxR.TabG H P
  tf : ∀ P ∈ Tb, F P = none
  lm : Lm Tb F H
structure Ext (ρ : List Addr) (F H : Hp) (ρ' : List Addr) (F' H' : Hp) : Prop where
  new : ∃ n, ρ' = ρ ++ n ∧ ∀ p ∈ n, H p = none
  up : ∀ p o, F p = some o → F' p = some o
  fr : ∀ p o, F' p = some o → F p = some o ∨ H p = none
  keep : ∀ p O, H p = some O → p ∉ ρ → notTbl O → H' p = some O
  per : ∀ p, H p ≠ none → H' p ≠ none
section
variable {K : PySem.W.Frag} {Tb : TBs} {ρ ρ' ρ'' : List Addr} {F F' F'' H H' H'' : Hp} {h h' : Hm}
theorem Ext.refl : Ext ρ F H ρ F H := ⟨⟨[], by simp, by simp⟩, fun _ _ e => e, fun _ _ e => .inl e, fun _ _ e _ _ => e, fun _ e => e⟩
theorem Ext.trans (a : Ext ρ F H ρ' F' H') (b : Ext ρ' F' H' ρ'' F'' H'') : Ext ρ F H ρ'' F'' H'' := by
  obtain ⟨n, e, hn⟩ := a.new
  obtain ⟨m, e', hm⟩ := b.new
  have fresh : ∀ p, H' p = none → H p = none := fun p q => by
    cases z : H p with
    | none => rfl
    | some o => exact absurd q (a.per p (by rw [z]; simp))
  refine ⟨⟨n ++ m, by rw [e', e, List.append_assoc], fun p hp => ?_⟩, fun p o q => b.up p o (a.up p o q), fun p o q => ?_, fun p O q np nt => ?_, fun p q => b.per p (a.per p q)⟩
  · rcases List.mem_append.mp hp with q | q
    · exact hn p q
    · exact fresh p (hm p q)
  · rcases b.fr p o q with z | z
    · exact a.fr p o z
    · exact .inr (fresh p z)
  · refine b.keep p O (a.keep p O q np nt) (fun z => ?_) nt
    rw [e] at z
    rcases List.mem_append.mp z with z | z
    · exact np z
    · rw [hn p z] at q; cases q
theorem Ext.ix (a : Ext ρ F H ρ' F' H') : ∀ (i : Nat) (p : Addr), ρ[i]? = some p → ρ'[i]? = some p := fun i p e => by
  obtain ⟨n, q, _⟩ := a.new
  rw [q, List.getElem?_append_left (List.getElem?_eq_some_iff.mp e).1]
  exact e
theorem Ext.rv (a : Ext ρ F H ρ' F' H') {d : PV} {v : V} (r : RV K ρ F d v) : RV K ρ' F' d v := RV.up a.ix a.up d v r
theorem Ext.rvs (a : Ext ρ F H ρ' F' H') {d : List PV} {v : List V} (r : RVs K ρ F d v) : RVs K ρ' F' d v := RVs.up a.ix a.up d v r
theorem Sim.fnone (s : Sim K Tb ρ F h H) {p : Addr} (q : H p = none) : F p = none := by
  cases z : F p with
  | none => rfl
  | some o =>
    rcases s.le p o z with e | ⟨_, ob, e⟩
    · rw [q] at e; cases e
    · rw [q] at e; cases e
theorem Sim.rsome (s : Sim K Tb ρ F h H) {p : Addr} (q : p ∈ ρ) : ∃ o, H p = some o := by
  obtain ⟨i, hi, e⟩ := List.getElem_of_mem q
  have hl : i < h.length := by rw [← s.len]; exact hi
  obtain ⟨p', O, e1, e2, _⟩ := s.ob i h[i] (by simp [hl])
  rw [List.getElem?_eq_getElem hi, e] at e1
  cases e1
  exact ⟨O, e2⟩
theorem Sim.notin (s : Sim K Tb ρ F h H) {p : Addr} (q : H p = none) : p ∉ ρ := fun z => by
  obtain ⟨o, e⟩ := s.rsome z
  rw [q] at e; cases e
/-- a new thing that never changes -/
theorem Sim.laid {p : Addr} {o : HO} (s : Sim K Tb ρ F h H) (q : H p = none) (nt : notTbl o) : Sim K Tb ρ (upd F p o) h (upd H p o) ∧ Ext ρ F H ρ (upd F p o) (upd H p o) := by
  have fp := s.fnone q
  have up : ∀ b u, F b = some u → upd F p o b = some u := fun b u e => by rw [upd_ne (fun z => by rw [z, fp] at e; cases e)]; exact e
  have uh : ∀ b u, H b = some u → upd H p o b = some u := fun b u e => by rw [upd_ne (fun z => by rw [z, q] at e; cases e)]; exact e
  refine ⟨⟨fun b u e => ?_, s.len, s.nd, fun b hb => ?_, fun i x e => ?_, fun P hP => ?_, fun P hP => ?_, s.lm.mono (fun b u e _ _ => uh b u e) (fun b e z => by rw [upd_ne (fun y => e (by rw [y]; exact q))]; exact z)⟩, ⟨⟨[], by simp, by simp⟩, up, fun b u e => ?_, fun b u e _ _ => uh b u e, fun b e z => ?_⟩⟩
  · by_cases hb : b = p
    · subst hb
      rw [upd_same] at e ⊢
      exact .inl e
    · rw [upd_ne hb] at e
      rw [upd_ne hb]
      exact s.le b u e
  · rw [upd_ne (fun z => s.notin q (by rw [← z]; exact hb))]
    exact s.off b hb
  · obtain ⟨a, O, e1, e2, r⟩ := s.ob i x e
    refine ⟨a, O, e1, uh _ _ e2, ?_⟩
    cases r with
    | lst r => exact .lst (RVs.up (fun _ _ e => e) up _ _ r)
  · obtain ⟨ps, e, t⟩ := s.tb P hP
    exact ⟨ps, uh _ _ e, t⟩
  · obtain ⟨ps, e, t⟩ := s.tb P hP
    rw [upd_ne (fun z => by rw [z, q] at e; cases e)]
    exact s.tf P hP
  · by_cases hb : b = p
    · exact .inr (hb ▸ q)
    · rw [upd_ne hb] at e
      exact .inl e
  · by_cases hb : b = p
    · subst hb; rw [upd_same] at z; cases z
    · rw [upd_ne hb] at z; exact e z
/-- a new thing that may change -/
theorem Sim.alloc {p : Addr} {O : HO} {o : MO} (s : Sim K Tb ρ F h H) (q : H p = none) (r : RO K ρ F o O) (nt : notTbl O) : Sim K Tb (ρ ++ [p]) F (h ++ [o]) (upd H p O) ∧ Ext ρ F H (ρ ++ [p]) F (upd H p O) := by
  have fp := s.fnone q
  have uh : ∀ b u, H b = some u → upd H p O b = some u := fun b u e => by rw [upd_ne (fun z => by rw [z, q] at e; cases e)]; exact e
  have ix : ∀ (i : Nat) (a : Addr), ρ[i]? = some a → (ρ ++ [p])[i]? = some a := fun i a e => by
    rw [List.getElem?_append_left (List.getElem?_eq_some_iff.mp e).1]; exact e
  have ro : ∀ {o : MO} {O : HO}, RO K ρ F o O → RO K (ρ ++ [p]) F o O := fun r => by
    cases r with
    | lst r => exact .lst (RVs.up ix (fun _ _ e => e) _ _ r)
  refine ⟨⟨fun b u e => ?_, by simp [s.len], ?_, fun b hb => ?_, fun i x e => ?_, fun P hP => ?_, s.tf, s.lm.mono (fun b u e _ _ => uh b u e) (fun _ _ z => z)⟩, ⟨⟨[p], rfl, by simpa using q⟩, fun _ _ e => e, fun _ _ e => .inl e, fun b u e _ _ => uh b u e, fun b e z => ?_⟩⟩
  · rcases s.le b u e with z | ⟨d, ob, z⟩
    · exact .inl (uh _ _ z)
    · exact .inr ⟨d, ob, uh _ _ z⟩
  · rw [List.nodup_append]
    refine ⟨s.nd, by simp, fun a ha b hb z => ?_⟩
    simp at hb
    exact s.notin q (by rw [← hb, ← z]; exact ha)
  · rcases List.mem_append.mp hb with z | z
    · exact s.off b z
    · simp at z; rw [z]; exact fp
  · by_cases hi : i < h.length
    · rw [List.getElem?_append_left hi] at e
      obtain ⟨a, O', e1, e2, r'⟩ := s.ob i x e
      exact ⟨a, O', ix _ _ e1, uh _ _ e2, ro r'⟩
    · have : i = h.length := by
        have := (List.getElem?_eq_some_iff.mp e).1
        simp at this; omega
      subst this
      simp at e
      subst e
      exact ⟨p, O, by rw [← s.len]; simp, upd_same, ro r⟩
  · obtain ⟨ps, e, t⟩ := s.tb P hP
    exact ⟨ps, uh _ _ e, t⟩
  · by_cases hb : b = p
    · subst hb; rw [upd_same] at z; cases z
    · rw [upd_ne hb] at z; exact e z
/-- the i-th is written -/
theorem Sim.write {i : Nat} {p : Addr} {o : MO} {O : HO} (s : Sim K Tb ρ F h H) (hp : ρ[i]? = some p) (r : RO K ρ F o O) (nt : ∀ P ∈ Tb, P ≠ p) : Sim K Tb ρ F (h.set i o) (upd H p O) ∧ Ext ρ F H ρ F (upd H p O) := by
  have hm : p ∈ ρ := List.mem_of_getElem? hp
  have fp := s.off p hm
  have wl : ∀ u, H p = some u → (∀ xs, u ≠ .lst xs) → False := fun u e nl => by
    have hi : i < h.length := by rw [← s.len]; exact (List.getElem?_eq_some_iff.mp hp).1
    obtain ⟨p', O', e1, e2, r'⟩ := s.ob i h[i] (by simp [hi])
    rw [hp] at e1; cases e1
    rw [e] at e2; cases e2
    generalize h[i] = o' at r'
    cases r' with
    | lst _ => exact nl _ rfl
  have nF : ∀ b u, F b = some u → b ≠ p := fun b u e z => by rw [z, fp] at e; cases e
  refine ⟨⟨fun b u e => ?_, by simp [s.len], s.nd, s.off, fun j x e => ?_, fun P hP => ?_, s.tf, s.lm.mono (fun b u e nl _ => by rw [upd_ne (fun z => wl u (by rw [← z]; exact e) nl)]; exact e) (fun _ _ z => z)⟩, ⟨⟨[], by simp, by simp⟩, fun _ _ e => e, fun _ _ e => .inl e, fun b u e nb _ => ?_, fun b e z => ?_⟩⟩
  · rw [upd_ne (nF b u e)]
    exact s.le b u e
  · by_cases hj : j = i
    · subst hj
      have : j < h.length := by
        have := (List.getElem?_eq_some_iff.mp e).1
        simpa using this
      rw [List.getElem?_set_self this] at e
      cases e
      exact ⟨p, O, hp, upd_same, r⟩
    · rw [List.getElem?_set_ne (Ne.symm hj)] at e
      obtain ⟨a, O', e1, e2, r'⟩ := s.ob j x e
      refine ⟨a, O', e1, ?_, r'⟩
      rw [upd_ne]
      · exact e2
      · intro z
        subst z
        exact hj (nd_ix s.nd e1 hp)
  · obtain ⟨ps, e, t⟩ := s.tb P hP
    exact ⟨ps, by rw [upd_ne (nt P hP)]; exact e, t⟩
  · rw [upd_ne (fun z => nb (by rw [z]; exact hm))]
    exact e
  · by_cases hb : b = p
    · subst hb; rw [upd_same] at z; cases z
    · rw [upd_ne hb] at z; exact e z
end

/-- the names -/
structure RE (K : PySem.W.Frag) (ρ : List Addr) (F H : Hp) (e : En) (σ : L2.St) : Prop where
  len : e.length = σ.length
  val : ∀ (i : Nat) v, e[i]? = some (.val v) → ∃ x, σ[i]? = some (some x) ∧ RV K ρ F v x
  own : ∀ (i : Nat) xs, e[i]? = some (.own xs) → ∃ p vs, σ[i]? = some (some (.ref p)) ∧ H p = some (.lst vs) ∧ RVs K ρ F xs vs ∧ F p = none ∧ p ∉ ρ
  dis : ∀ (i j : Nat) xs ys p, i ≠ j → e[i]? = some (.own xs) → e[j]? = some (.own ys) → σ[i]? = some (some (.ref p)) → σ[j]? ≠ some (some (.ref p))
section
variable {K : PySem.W.Frag} {Tb : TBs} {ρ ρ' : List Addr} {F F' H H' : Hp} {h h' : Hm} {e : En} {σ : L2.St}
theorem RE.ext (r : RE K ρ F H e σ) (x : Ext ρ F H ρ' F' H') : RE K ρ' F' H' e σ := by
  refine ⟨r.len, fun i v q => ?_, fun i xs q => ?_, r.dis⟩
  · obtain ⟨y, h1, h2⟩ := r.val i v q
    exact ⟨y, h1, x.rv h2⟩
  · obtain ⟨p, vs, h1, h2, h3, h4, h5⟩ := r.own i xs q
    refine ⟨p, vs, h1, x.keep p _ h2 h5 (fun ps z => by cases z), x.rvs h3, ?_, fun z => ?_⟩
    · cases q2 : F' p with
      | none => rfl
      | some o =>
        rcases x.fr p o q2 with z | z
        · rw [h4] at z; cases z
        · rw [h2] at z; cases z
    · obtain ⟨n, e1, hn⟩ := x.new
      rw [e1] at z
      rcases List.mem_append.mp z with z | z
      · exact h5 z
      · rw [hn p z] at h2; cases h2
theorem RE.set (r : RE K ρ F H e σ) (i : Nat) {v : PV} {x : V} (rv : RV K ρ F v x) : RE K ρ F H (e.set i (.val v)) (σ.set i (some x)) := by
  have key : ∀ (j : Nat) s, (e.set i (.val v))[j]? = some s → (j = i ∧ s = .val v ∧ i < e.length) ∨ (j ≠ i ∧ e[j]? = some s) := fun j s q => by
    by_cases hj : j = i
    · subst hj
      have hl : j < e.length := by have := (List.getElem?_eq_some_iff.mp q).1; simpa using this
      rw [List.getElem?_set_self hl] at q
      exact .inl ⟨rfl, (Option.some.inj q).symm, hl⟩
    · rw [List.getElem?_set_ne (Ne.symm hj)] at q
      exact .inr ⟨hj, q⟩
  refine ⟨by simp [r.len], fun j w q => ?_, fun j xs q => ?_, fun j k xs ys p n q1 q2 s1 => ?_⟩
  · rcases key j _ q with ⟨rfl, e1, hl⟩ | ⟨hj, q⟩
    · cases e1
      exact ⟨x, by rw [List.getElem?_set_self (by rw [← r.len]; exact hl)], rv⟩
    · rw [List.getElem?_set_ne (Ne.symm hj)]
      exact r.val j w q
  · rcases key j _ q with ⟨rfl, e1, hl⟩ | ⟨hj, q⟩
    · cases e1
    · rw [List.getElem?_set_ne (Ne.symm hj)]
      exact r.own j xs q
  · rcases key j _ q1 with ⟨rfl, e1, hl⟩ | ⟨hj, q1⟩
    · cases e1
    · rcases key k _ q2 with ⟨rfl, e1, hl⟩ | ⟨hk, q2⟩
      · cases e1
      · rw [List.getElem?_set_ne (Ne.symm hj)] at s1
        rw [List.getElem?_set_ne (Ne.symm hk)]
        exact r.dis j k xs ys p n q1 q2 s1
end
end PM
end
section
set_option Elab.async false
set_option linter.all false
set_option maxRecDepth 100000
set_option autoImplicit false
set_option maxHeartbeats 4000000
namespace PM
open PySem PySem.Spec PyProof.Rows L2

section
variable (K : PySem.W.Frag) (Tb : TBs) (W : WX)
/-- what is wanted behind a result -/
def post {α β : Type} (R : List Addr → Hp → α → β → Prop) (ρ : List Addr) (F H : Hp) (σ : L2.St) (r : Res α) (Q : β → Hp → Prop) : Prop := match r with
  | .ok v h => ∀ ρ' F' H' x, Ext ρ F H ρ' F' H' → Sim K Tb ρ' F' h H' → R ρ' F' v x → Q x H'
  | .exc c h => ∀ ρ' F' H', Ext ρ F H ρ' F' H' → Sim K Tb ρ' F' h H' → W (.ref (He.ga K c)) none σ H'
  | .stuck => False
/-- a reading by a function of the names and the heap -/
def rd {α β : Type} (R : List Addr → Hp → α → β → Prop) (m : M α) : L2.St → Hp → (β → Hp → Prop) → Prop := fun σ H Q =>
  ∃ ρ F e h, Sim K Tb ρ F h H ∧ RE K ρ F H e σ ∧ post K Tb W R ρ F H σ (m e h) Q
end
abbrev rE (K : PySem.W.Frag) (Tb : TBs) (W : WX) (m : M PV) : TE := rd K Tb W (RV K) m
abbrev rT (K : PySem.W.Frag) (Tb : TBs) (W : WX) (m : M Bool) : TT := rd K Tb W (fun _ _ (a b : Bool) => a = b) m
abbrev rA (K : PySem.W.Frag) (Tb : TBs) (W : WX) (m : M (List PV)) : TA := rd K Tb W (RVs K) m
section
variable {K : PySem.W.Frag} {Tb : TBs} {W : WX} {α β γ δ : Type} {R : List Addr → Hp → α → β → Prop} {S : List Addr → Hp → γ → δ → Prop} {ρ ρ' : List Addr} {F F' H H' : Hp} {σ : L2.St}
theorem post_ext {r : Res α} {Q : β → Hp → Prop} (x : Ext ρ F H ρ' F' H') (p : post K Tb W R ρ F H σ r Q) : post K Tb W R ρ' F' H' σ r Q := by
  cases r with
  | ok v h => exact fun ρ2 F2 H2 y e s r => p ρ2 F2 H2 y (x.trans e) s r
  | exc c h => exact fun ρ2 F2 H2 e s => p ρ2 F2 H2 (x.trans e) s
  | stuck => exact p
theorem post_imp {r : Res α} {Q Q' : β → Hp → Prop} (p : post K Tb W R ρ F H σ r Q) (i : ∀ x H', Q x H' → Q' x H') : post K Tb W R ρ F H σ r Q' := by
  cases r with
  | ok v h => exact fun ρ2 F2 H2 y e s r => i _ _ (p ρ2 F2 H2 y e s r)
  | exc c h => exact p
  | stuck => exact p
/-- what follows a result, once it is there -/
structure Then (K : PySem.W.Frag) (Tb : TBs) (W : WX) (R : List Addr → Hp → α → β → Prop) (S : List Addr → Hp → γ → δ → Prop) (ρ : List Addr) (F H : Hp) (σ : L2.St) (k : α → Hm → Res γ) (Q : δ → Hp → Prop) (x : β) (H1 : Hp) : Prop where
  ex : ∃ ρ1 F1 h1 v, Ext ρ F H ρ1 F1 H1 ∧ Sim K Tb ρ1 F1 h1 H1 ∧ R ρ1 F1 v x ∧ post K Tb W S ρ1 F1 H1 σ (k v h1) Q
theorem post_bind {r : Res α} {k : α → Hm → Res γ} {Q : δ → Hp → Prop} (p : post K Tb W S ρ F H σ (r.bind k) Q) : post K Tb W R ρ F H σ r (Then K Tb W R S ρ F H σ k Q) := by
  cases r with
  | ok v h => exact fun ρ1 F1 H1 x e s r => ⟨ρ1, F1, h, v, e, s, r, post_ext e p⟩
  | exc c h => exact p
  | stuck => exact p
/-- a reading, then the rest -/
theorem rd_bind {m : M α} {k : α → M γ} {Q : δ → Hp → Prop} {H0 : Hp} (p : rd K Tb W S (fun e h => (m e h).bind fun v h1 => k v e h1) σ H0 Q) :
    rd K Tb W R m σ H0 fun x H1 => ∃ ρ F e h v, Sim K Tb ρ F h H1 ∧ RE K ρ F H1 e σ ∧ R ρ F v x ∧ post K Tb W S ρ F H1 σ (k v e h) Q := by
  obtain ⟨ρ, F, e, h, s, re, q⟩ := p
  refine ⟨ρ, F, e, h, s, re, post_imp (post_bind (R := R) q) fun x H1 t => ?_⟩
  obtain ⟨ρ1, F1, h1, v, ex, s1, r1, q1⟩ := t.ex
  exact ⟨ρ1, F1, e, h1, v, s1, re.ext ex, r1, q1⟩
/-- a result that is there -/
theorem post_ret {v : α} {h : Hm} {x : β} {Q : β → Hp → Prop} (p : post K Tb W R ρ F H σ (.ok v h) Q) (s : Sim K Tb ρ F h H) (r : R ρ F v x) : Q x H := p ρ F H x Ext.refl s r
end

/-! ### expressions -/
structure PM (X : Cx) (Tb : TBs) (W : WX) (e : Expr) (m : M PV) : Prop where
  pe : PE X e (rE X.K Tb W m)
structure PMT (X : Cx) (Tb : TBs) (W : WX) (e : Expr) (m : M Bool) : Prop where
  pt : PT X e (rT X.K Tb W m)
structure PMW (X : Cx) (Tb : TBs) (W : WX) (e : Expr) (m : M Bool) : Prop where
  pw : PW X e (rT X.K Tb W m)
structure PMA (X : Cx) (Tb : TBs) (W : WX) (es : List Expr) (m : M (List PV)) : Prop where
  pa : PA X es (rA X.K Tb W m)
/-- a weaker reading -/
theorem PE.imp {X : Cx} {e : Expr} {t t' : TE} (h : PE X e t) (i : ∀ σ H Q, t' σ H Q → t σ H Q) : PE X e t' := ⟨fun pins s σ H Q I q => h.run pins s σ H Q I (i σ H Q q)⟩
theorem PT.imp {X : Cx} {e : Expr} {t t' : TT} (h : PT X e t) (i : ∀ σ H Q, t' σ H Q → t σ H Q) : PT X e t' := ⟨fun pins s σ H Q I q => h.run pins s σ H Q I (i σ H Q q)⟩
theorem PW.imp {X : Cx} {e : Expr} {t t' : TT} (h : PW X e t) (i : ∀ σ H Q, t' σ H Q → t σ H Q) : PW X e t' := ⟨fun w pins s σ H Q I q => h.run w pins s σ H Q I (i σ H Q q)⟩
theorem PA.imp {X : Cx} {e : List Expr} {t t' : TA} (h : PA X e t) (i : ∀ σ H Q, t' σ H Q → t σ H Q) : PA X e t' := ⟨fun pos pins s σ H Q I q => h.run pos pins s σ H Q I (i σ H Q q)⟩
theorem PS.imp {X : Cx} {e : Stmt} {t t' : TS} (h : PS X e t) (i : ∀ D σ H, t' D σ H → t D σ H) : PS X e t' := ⟨fun pins s σ H D I q => h.run pins s σ H D I (i D σ H q)⟩
theorem PSs.imp {X : Cx} {e : List Stmt} {t t' : TS} (h : PSs X e t) (i : ∀ D σ H, t' D σ H → t D σ H) : PSs X e t' := ⟨fun pins s σ H D I q => h.run pins s σ H D I (i D σ H q)⟩

def mVar (i : Nat) : M PV := fun e h => match e[i]? with
  | some (.val v) => .ok v h
  | _ => .stuck
def mC (v : PV) : M PV := fun _ h => .ok v h
section
variable {X : Cx} {Tb : TBs} {W : WX}
theorem pm_var (i : Nat) {x : Str} {pos : Pos} (hN : X.N[i]? = some x := by rfl) (hv : Vis X.env.scope x := by first | exact Or.inl rfl | exact Or.inr (Or.inl rfl) | exact Or.inr (Or.inr rfl)) (hd : (x == ("__debug__" : Str)) = false := by decide)
    (hcd : (x == ("__classdict__" : Str)) = false := by decide) : PM X Tb W (.Name x pos) (mVar i) := by
  refine ⟨PE.imp (pe_var hN hv hd hcd) fun σ H Q q => ?_⟩
  obtain ⟨ρ, F, e, h, s, re, q⟩ := q
  unfold mVar at q
  split at q
  · rename_i v e1
    obtain ⟨x, h1, h2⟩ := re.val i v e1
    exact ⟨x, h1, post_ret q s h2⟩
  · exact q.elim
theorem pm_c {e : Expr} {v : PV} {x : V} (h : PE X e (tC x)) (r : ∀ ρ F, RV X.K ρ F v x) : PM X Tb W e (mC v) := by
  refine ⟨PE.imp h fun σ H Q q => ?_⟩
  obtain ⟨ρ, F, e, h, s, re, q⟩ := q
  exact post_ret q s (r ρ F)
theorem pm_int {i : Int} {j pos} : PM X Tb W (.Constant (.int i) j pos) (mC (.int i)) := pm_c pe_int fun _ _ => .int i
theorem pm_bl {b : Bool} {j pos} : PM X Tb W (.Constant (.bool b) j pos) (mC (.bl b)) := pm_c pe_bl fun _ _ => .bl b
theorem pm_non {j pos} : PM X Tb W (.Constant .none j pos) (mC .non) := pm_c pe_non fun _ _ => .non
theorem pm_str {x : Str} {j pos} : PM X Tb W (.Constant (.str x) j pos) (mC (.str x)) := pm_c pe_str fun _ _ => .str x
end

/-! ### two operands -/
def mOp (f : PV → PV → Hm → Res PV) (a b : M PV) : M PV := fun e h => (a e h).bind fun x h1 => (b e h1).bind fun y h2 => f x y h2
/-- an operation on values, by a rule r of the layer -/
def OpM (K : PySem.W.Frag) (Tb : TBs) (W : WX) (f : PV → PV → Hm → Res PV) (r : R2) : Prop :=
  ∀ ρ F h H σ x y v w Q, Sim K Tb ρ F h H → RV K ρ F x v → RV K ρ F y w → post K Tb W (RV K) ρ F H σ (f x y h) Q → r v w H Q
theorem tOp_of {K : PySem.W.Frag} {Tb : TBs} {W : WX} {f : PV → PV → Hm → Res PV} {r : R2} {a b : M PV} (hf : OpM K Tb W f r) (σ : L2.St) (H : Hp) (Q : VK) (q : rE K Tb W (mOp f a b) σ H Q) : tOp r (rE K Tb W a) (rE K Tb W b) σ H Q := by
  have q1 := rd_bind (R := RV K) (k := fun x => fun e h => (b e h).bind fun y h2 => f x y h2) q
  obtain ⟨ρ, F, e, h, s, re, p⟩ := q1
  refine ⟨ρ, F, e, h, s, re, post_imp p fun v H1 ⟨ρ1, F1, e1, h1, x, s1, re1, rx, p1⟩ => ?_⟩
  refine ⟨ρ1, F1, e1, h1, s1, re1, post_imp (post_bind (R := RV K) p1) fun w H2 t => ?_⟩
  obtain ⟨ρ2, F2, h2, y, ex, s2, ry, p2⟩ := t.ex
  exact hf ρ2 F2 h2 H2 σ x y v w Q s2 (ex.rv rx) ry p2
section
variable {X : Cx} {Tb : TBs} {W : WX} {a b : Expr} {ma mb : M PV} {pos : Pos}
theorem pm_op {op : Operator} {r : R2} {f : PV → PV → Hm → Res PV} (ho : OpR X (binaryOp op) r) (hf : OpM X.K Tb W f r) (ha : PM X Tb W a ma) (hb : PM X Tb W b mb) : PM X Tb W (.BinOp a op b pos) (mOp f ma mb) :=
  ⟨PE.imp (pe_op ho ha.pe hb.pe) fun σ H Q q => tOp_of hf σ H Q q⟩
theorem pm_cmp {op : CmpOp} {r : R2} {f : PV → PV → Hm → Res PV} (ho : OpR X (compareOp op) r) (hf : OpM X.K Tb W f r) (ha : PM X Tb W a ma) (hb : PM X Tb W b mb) (hm : behindInMarks op b = false) : PM X Tb W (.Compare a [op] [b] pos) (mOp f ma mb) :=
  ⟨PE.imp (pe_cmpR ho ha.pe hb.pe hm) fun σ H Q q => tOp_of hf σ H Q q⟩
end
/-- one answer for each pair of values -/
def pure2 (g : PV → PV → Option PV) : PV → PV → Hm → Res PV := fun x y h => match g x y with
  | some z => .ok z h
  | none => .stuck
theorem pure2_of {K : PySem.W.Frag} {Tb : TBs} {W : WX} {g : PV → PV → Option PV} {r : R2} (h : ∀ ρ F h H x y v w z, Sim K Tb ρ F h H → RV K ρ F x v → RV K ρ F y w → g x y = some z → ∃ u, RV K ρ F z u ∧ ∀ Q : VK, Q u H → r v w H Q) :
    OpM K Tb W (pure2 g) r := by
  intro ρ F hh H σ x y v w Q s rx ry q
  unfold pure2 at q
  split at q
  · rename_i z e
    obtain ⟨u, ru, k⟩ := h ρ F hh H x y v w z s rx ry e
    exact k Q (post_ret q s ru)
  · exact q.elim
def gAdd : PV → PV → Option PV
  | .int i, .int j => some (.int (i + j))
  | _, _ => none
def gSub : PV → PV → Option PV
  | .int i, .int j => some (.int (i - j))
  | _, _ => none
def gMul : PV → PV → Option PV
  | .int i, .int j => if (-(2 ^ 64) < i ∧ i < 2 ^ 64) ∨ (-(2 ^ 64) < j ∧ j < 2 ^ 64) then some (.int (i * j)) else none
  | _, _ => none
def gMod : PV → PV → Option PV
  | .int i, .int j => if 0 < j then some (.int (i % j)) else none
  | _, _ => none
def gDiv : PV → PV → Option PV
  | .int i, .int j => if 0 < j ∧ j < 1073741824 then some (.int (i / j)) else none
  | _, _ => none
section
variable {X : Cx} {Tb : TBs} {W : WX} {a b : Expr} {ma mb : M PV} {pos : Pos}
theorem pm_addI (ha : PM X Tb W a ma) (hb : PM X Tb W b mb) : PM X Tb W (.BinOp a .Add b pos) (mOp (pure2 gAdd) ma mb) := pm_op op_add (pure2_of fun ρ F h H x y v w z s rx ry e => by
  cases rx <;> cases ry <;> simp only [gAdd] at e <;> cases e
  exact ⟨_, .int _, fun Q q => ⟨_, _, rfl, rfl, q⟩⟩) ha hb
theorem pm_sub (ha : PM X Tb W a ma) (hb : PM X Tb W b mb) : PM X Tb W (.BinOp a .Sub b pos) (mOp (pure2 gSub) ma mb) := pm_op op_sub (pure2_of fun ρ F h H x y v w z s rx ry e => by
  cases rx <;> cases ry <;> simp only [gSub] at e <;> cases e
  exact ⟨_, .int _, fun Q q => ⟨_, _, rfl, rfl, q⟩⟩) ha hb
theorem pm_mulI (ha : PM X Tb W a ma) (hb : PM X Tb W b mb) : PM X Tb W (.BinOp a .Mult b pos) (mOp (pure2 gMul) ma mb) := pm_op op_mul (pure2_of fun ρ F h H x y v w z s rx ry e => by
  cases rx <;> cases ry <;> simp only [gMul] at e <;> try cases e
  split at e
  · rename_i c
    cases e
    exact ⟨_, .int _, fun Q q => ⟨_, _, rfl, rfl, c, q⟩⟩
  · cases e) ha hb
theorem pm_mod (ha : PM X Tb W a ma) (hb : PM X Tb W b mb) : PM X Tb W (.BinOp a .Mod b pos) (mOp (pure2 gMod) ma mb) := pm_op op_mod (pure2_of fun ρ F h H x y v w z s rx ry e => by
  cases rx <;> cases ry <;> simp only [gMod] at e <;> try cases e
  split at e
  · rename_i c
    cases e
    exact ⟨_, .int _, fun Q q => ⟨_, _, rfl, rfl, c, q⟩⟩
  · cases e) ha hb
theorem pm_fdiv (ha : PM X Tb W a ma) (hb : PM X Tb W b mb) : PM X Tb W (.BinOp a .FloorDiv b pos) (mOp (pure2 gDiv) ma mb) := pm_op op_fdiv (pure2_of fun ρ F h H x y v w z s rx ry e => by
  cases rx <;> cases ry <;> simp only [gDiv] at e <;> try cases e
  split at e
  · rename_i c
    cases e
    exact ⟨_, .int _, fun Q q => ⟨_, _, rfl, rfl, c, q⟩⟩
  · cases e) ha hb
end
end PM
end
section
set_option Elab.async false
set_option linter.all false
set_option maxRecDepth 100000
set_option autoImplicit false
set_option maxHeartbeats 4000000
namespace PM
open PySem PySem.Spec PyProof.Rows L2

/-! ### trees as the library's data -/
mutual
def toD : PV → Option PyData
  | .non => some .none
  | .bl b => some (.bool b)
  | .int i => some (.int i)
  | .str s => some (.str s)
  | .tup xs => match toDs xs with
    | some ds => some (.tuple ds)
    | none => none
  | .lst xs => match toDs xs with
    | some ds => some (.list ds)
    | none => none
  | .ref _ => none
  | .fn _ => none
def toDs : List PV → Option (List PyData)
  | [] => some []
  | x :: xs => match toD x, toDs xs with
    | some d, some ds => some (d :: ds)
    | _, _ => none
end
section
variable {K : PySem.W.Frag} {ρ : List Addr} {F H : Hp}
mutual
theorem RV.dp (l : LeR F H) : ∀ (x : PV) (v : V) (d : PyData), RV K ρ F x v → toD x = some d → Dp K H v d
  | .non, _, _, r, e => by cases r; simp only [toD] at e; cases e; exact .non
  | .bl b, _, _, r, e => by cases r; simp only [toD] at e; cases e; exact .bl b
  | .int b, _, _, r, e => by cases r; simp only [toD] at e; cases e; exact .int b
  | .str b, _, _, r, e => by cases r; simp only [toD] at e; cases e; exact .str b
  | .tup xs, _, _, r, e => by
    simp only [toD] at e
    split at e
    · rename_i ds h
      cases e
      cases r with | tup a b => exact .tup (sqT_le l a) (RVs.dp l xs _ _ b h)
    · cases e
  | .lst xs, _, _, r, e => by
    simp only [toD] at e
    split at e
    · rename_i ds h
      cases e
      cases r with | lst a b => exact .lst (sqL_le l a) (RVs.dp l xs _ _ b h)
    · cases e
  | .ref _, _, _, _, e => by simp [toD] at e
  | .fn _, _, _, _, e => by simp [toD] at e
theorem RVs.dp (l : LeR F H) : ∀ (xs : List PV) (vs : List V) (ds : List PyData), RVs K ρ F xs vs → toDs xs = some ds → DpAll K H vs ds
  | [], _, _, r, e => by cases r; simp only [toDs] at e; cases e; exact .nil
  | x :: xs, _, _, r, e => by
    simp only [toDs] at e
    split at e
    · rename_i d ds h1 h2
      cases e
      cases r with | cons a b => exact .cons (RV.dp l x _ _ a h1) (RVs.dp l xs _ _ b h2)
    · cases e
end
end

def gEqv (x y : PV) : Option Bool := match toD x, toD y with
  | some d, some e => if SeqAt.shaped d = true ∧ SeqAt.shaped e = true then some (PyData.eqv d e) else none
  | _, _ => none
def gEq (x y : PV) : Option PV := (gEqv x y).map .bl
def gNe (x y : PV) : Option PV := (gEqv x y).map fun b => .bl (!b)
theorem gEqv_some {x y : PV} {b : Bool} (h : gEqv x y = some b) : ∃ d e, toD x = some d ∧ toD y = some e ∧ SeqAt.shaped d = true ∧ SeqAt.shaped e = true ∧ b = PyData.eqv d e := by
  unfold gEqv at h
  split at h
  · rename_i d e h1 h2
    split at h
    · rename_i c
      exact ⟨d, e, h1, h2, c.1, c.2, (Option.some.inj h).symm⟩
    · cases h
  · cases h
section
variable {X : Cx} {Tb : TBs} {W : WX} {a b : Expr} {ma mb : M PV} {pos : Pos} {k : Nat}
theorem rm_units (hr : Room k X.A) : X.A.units + 64 < cLine := hr.units
theorem pm_eq (hr : Room k X.A) (ha : PM X Tb W a ma) (hb : PM X Tb W b mb) : PM X Tb W (.Compare a [.Eq] [b] pos) (mOp (pure2 gEq) ma mb) := pm_cmp (op_eqD hr.units) (pure2_of fun ρ F h H x y v w z s rx ry e => by
  unfold gEq at e
  obtain ⟨c, e1, rfl⟩ := Option.map_eq_some_iff.mp e
  obtain ⟨d, d', h1, h2, h3, h4, rfl⟩ := gEqv_some e1
  exact ⟨_, .bl _, fun Q q => ⟨d, d', RV.dp s.le _ _ _ rx h1, RV.dp s.le _ _ _ ry h2, h3, h4, q⟩⟩) ha hb (nomark _)
theorem pm_ne (hr : Room k X.A) (ha : PM X Tb W a ma) (hb : PM X Tb W b mb) : PM X Tb W (.Compare a [.NotEq] [b] pos) (mOp (pure2 gNe) ma mb) := pm_cmp (op_neD hr.units) (pure2_of fun ρ F h H x y v w z s rx ry e => by
  unfold gNe at e
  obtain ⟨c, e1, rfl⟩ := Option.map_eq_some_iff.mp e
  obtain ⟨d, d', h1, h2, h3, h4, rfl⟩ := gEqv_some e1
  exact ⟨_, .bl _, fun Q q => ⟨d, d', RV.dp s.le _ _ _ rx h1, RV.dp s.le _ _ _ ry h2, h3, h4, q⟩⟩) ha hb (nomark _)
/-- x in / not in a list or a tuple: by data -/
def gIsN : PV → PV → Option PV
  | .non, .non => some (.bl true)
  | _, .non => some (.bl false)
  | _, _ => none
def gNotN : PV → PV → Option PV
  | .non, .non => some (.bl false)
  | _, .non => some (.bl true)
  | _, _ => none
theorem pm_is (ha : PM X Tb W a ma) (hb : PM X Tb W b mb) : PM X Tb W (.Compare a [.Is] [b] pos) (mOp (pure2 gIsN) ma mb) := pm_cmp op_isN (pure2_of fun ρ F h H x y v w z s rx ry e => by
  cases rx <;> cases ry <;> simp only [gIsN] at e <;> cases e <;> exact ⟨_, .bl _, fun Q q => ⟨rfl, q⟩⟩) ha hb (nomark _)
theorem pm_isnot (ha : PM X Tb W a ma) (hb : PM X Tb W b mb) : PM X Tb W (.Compare a [.IsNot] [b] pos) (mOp (pure2 gNotN) ma mb) := pm_cmp op_notN (pure2_of fun ρ F h H x y v w z s rx ry e => by
  cases rx <;> cases ry <;> simp only [gNotN] at e <;> cases e <;> exact ⟨_, .bl _, fun Q q => ⟨rfl, q⟩⟩) ha hb (nomark _)
end

/-! ### order: by the library's order of alike data -/
def isNo : PyData → Bool
  | .none => true
  | _ => false
def okLt (d e : PyData) : Bool := PySem.W.alike d e && !isNo d && decide (d.depth ≤ 64)
def CLt (d e : PyData) : Prop := okLt d e = true
instance : DecidableRel CLt := fun d e => inferInstanceAs (Decidable (okLt d e = true))
theorem CLt.all {d e : PyData} (h : CLt d e) : PySem.W.alike d e = true ∧ d ≠ .none ∧ d.depth ≤ 64 := by
  unfold CLt okLt at h
  simp only [Bool.and_eq_true, Bool.not_eq_true', decide_eq_true_eq] at h
  exact ⟨h.1.1, fun z => by rw [z] at h; exact absurd h.1.2 (by decide), h.2⟩
def gLtv (x y : PV) : Option Bool := match toD x, toD y with
  | some d, some e => if CLt d e then some (PySem.W.dataLt d e) else none
  | _, _ => none
/-- a rule by two data -/
def rDD (C : PyData → PyData → Prop) (g : PyData → PyData → V) (K : PySem.W.Frag) : R2 := fun x y H Q => ∃ d e, Dp K H x d ∧ Dp K H y e ∧ C d e ∧ Q (g d e) H
section
variable {X : Cx} {Tb : TBs} {W : WX} {a b : Expr} {ma mb : M PV} {pos : Pos} {k : Nat}
theorem room_lt (hr : Room k X.A) {d e : PyData} (h : d.depth ≤ 64) : X.A.units + min d.depth e.depth < cLine := by
  have := hr.units
  have := Nat.min_le_left d.depth e.depth
  omega
theorem opr_ltD (hr : Room k X.A) : OpR X (compareOp .Lt) (rDD CLt (fun d e => .bl (PySem.W.dataLt d e)) X.K) := by
  intro pins s σ H x y v u Q I rx ry h
  obtain ⟨d, e, hd, he, c, q⟩ := h
  obtain ⟨c1, c2, c3⟩ := c.all
  obtain ⟨as, r1⟩ := Dp.reads I d x v hd rx
  obtain ⟨bs, r2⟩ := Dp.reads I e y u he ry
  exact PySem.W.lt_data r1 r2 c1 c2 (room_lt hr c3) ⟨.bl _, H, I, rfl, q⟩
theorem opr_gtD (hr : Room k X.A) : OpR X (compareOp .Gt) (rDD CLt (fun d e => .bl (PySem.W.dataLt e d)) X.K) := by
  intro pins s σ H x y v u Q I rx ry h
  obtain ⟨d, e, hd, he, c, q⟩ := h
  obtain ⟨c1, c2, c3⟩ := c.all
  obtain ⟨as, r1⟩ := Dp.reads I d x v hd rx
  obtain ⟨bs, r2⟩ := Dp.reads I e y u he ry
  exact PySem.W.gt_data r1 r2 c1 c2 (room_lt hr c3) ⟨.bl _, H, I, rfl, q⟩
theorem opr_leD (hr : Room k X.A) : OpR X (compareOp .LtE) (rDD CLt (fun d e => .bl (!PySem.W.dataLt e d)) X.K) := by
  intro pins s σ H x y v u Q I rx ry h
  obtain ⟨d, e, hd, he, c, q⟩ := h
  obtain ⟨c1, c2, c3⟩ := c.all
  obtain ⟨as, r1⟩ := Dp.reads I d x v hd rx
  obtain ⟨bs, r2⟩ := Dp.reads I e y u he ry
  exact PySem.W.le_data r1 r2 c1 c2 (room_lt hr c3) ⟨.bl _, H, I, rfl, q⟩
theorem opr_geD (hr : Room k X.A) : OpR X (compareOp .GtE) (rDD CLt (fun d e => .bl (!PySem.W.dataLt d e)) X.K) := by
  intro pins s σ H x y v u Q I rx ry h
  obtain ⟨d, e, hd, he, c, q⟩ := h
  obtain ⟨c1, c2, c3⟩ := c.all
  obtain ⟨as, r1⟩ := Dp.reads I d x v hd rx
  obtain ⟨bs, r2⟩ := Dp.reads I e y u he ry
  exact PySem.W.ge_data r1 r2 c1 c2 (room_lt hr c3) ⟨.bl _, H, I, rfl, q⟩
def gDD (f : PV → PV → Option Bool) : PV → PV → Option PV := fun x y => (f x y).map .bl
def gLt := gDD gLtv
def gGt := gDD fun x y => match toD x, toD y with
  | some d, some e => if CLt d e then some (PySem.W.dataLt e d) else none
  | _, _ => none
def gLe := gDD fun x y => match toD x, toD y with
  | some d, some e => if CLt d e then some (!PySem.W.dataLt e d) else none
  | _, _ => none
def gGe := gDD fun x y => match toD x, toD y with
  | some d, some e => if CLt d e then some (!PySem.W.dataLt d e) else none
  | _, _ => none
theorem opm_dd {K : PySem.W.Frag} {C : PyData → PyData → Prop} [DecidableRel C] {g : PyData → PyData → Bool} {f : PV → PV → Option Bool} (hf : ∀ x y, f x y = match toD x, toD y with
    | some d, some e => if C d e then some (g d e) else none
    | _, _ => none) : OpM K Tb W (pure2 (gDD f)) (rDD C (fun d e => .bl (g d e)) K) := pure2_of fun ρ F h H x y v w z s rx ry e => by
  unfold gDD at e
  obtain ⟨c, e1, rfl⟩ := Option.map_eq_some_iff.mp e
  rw [hf] at e1
  split at e1
  · rename_i d d' h1 h2
    split at e1
    · rename_i c'
      cases e1
      exact ⟨_, .bl _, fun Q q => ⟨d, d', RV.dp s.le _ _ _ rx h1, RV.dp s.le _ _ _ ry h2, c', q⟩⟩
    · cases e1
  · cases e1
theorem pm_lt (hr : Room k X.A) (ha : PM X Tb W a ma) (hb : PM X Tb W b mb) : PM X Tb W (.Compare a [.Lt] [b] pos) (mOp (pure2 gLt) ma mb) := pm_cmp (opr_ltD hr) (opm_dd fun _ _ => rfl) ha hb (nomark _)
theorem pm_gt (hr : Room k X.A) (ha : PM X Tb W a ma) (hb : PM X Tb W b mb) : PM X Tb W (.Compare a [.Gt] [b] pos) (mOp (pure2 gGt) ma mb) := pm_cmp (opr_gtD hr) (opm_dd fun _ _ => rfl) ha hb (nomark _)
theorem pm_le (hr : Room k X.A) (ha : PM X Tb W a ma) (hb : PM X Tb W b mb) : PM X Tb W (.Compare a [.LtE] [b] pos) (mOp (pure2 gLe) ma mb) := pm_cmp (opr_leD hr) (opm_dd fun _ _ => rfl) ha hb (nomark _)
theorem pm_ge (hr : Room k X.A) (ha : PM X Tb W a ma) (hb : PM X Tb W b mb) : PM X Tb W (.Compare a [.GtE] [b] pos) (mOp (pure2 gGe) ma mb) := pm_cmp (opr_geD hr) (opm_dd fun _ _ => rfl) ha hb (nomark _)

/-! ### in, not in -/
def inD : PyData → PyData → Option Bool
  | d, .list ds => some (ds.any fun z => PyData.eqv z d)
  | d, .tuple ds => some (ds.any fun z => PyData.eqv z d)
  | .str x, .str y => some (!(Builtin.Str.occurrences y x 0 y.length 1).isEmpty)
  | _, _ => none
def gInv (x y : PV) : Option Bool := match toD x, toD y with
  | some d, some e => if SeqAt.shaped d = true ∧ SeqAt.shaped e = true then inD d e else none
  | _, _ => none
def gIn := gDD gInv
def gNotIn := gDD fun x y => (gInv x y).map (!·)
def rInX (neg : Bool) (K : PySem.W.Frag) : R2 := fun x y H Q => ∃ d e c, Dp K H x d ∧ Dp K H y e ∧ SeqAt.shaped d = true ∧ SeqAt.shaped e = true ∧ inD d e = some c ∧ Q (.bl (if neg then !c else c)) H
theorem opr_in (hr : Room k X.A) : OpR X (compareOp .In) (rInX false X.K) := by
  intro pins s σ H x y v u Q I rx ry h
  obtain ⟨d, e, c, hd, he, sd, se, hc, q⟩ := h
  have hu : X.A.units + 65 < cLine := by have := hr.un; omega
  cases e with
  | list ds =>
    obtain ⟨as, r1⟩ := Dp.reads I d x v hd rx
    obtain ⟨bs, r2⟩ := Dp.reads I (.list ds) y u he ry
    have e : c = ds.any fun z => PyData.eqv z d := by cases d <;> exact (Option.some.inj hc).symm
    subst e
    exact SeqAt.in_list_reads r2 r1 (SeqAt.canLay_of_shaped se) (SeqAt.canLay_of_shaped sd) (room_in_shaped sd hu) ⟨.bl _, H, I, rfl, q⟩
  | tuple ds =>
    obtain ⟨as, r1⟩ := Dp.reads I d x v hd rx
    obtain ⟨bs, r2⟩ := Dp.reads I (.tuple ds) y u he ry
    have e : c = ds.any fun z => PyData.eqv z d := by cases d <;> exact (Option.some.inj hc).symm
    subst e
    exact SeqAt.in_tuple_reads r2 r1 (SeqAt.canLay_of_shaped se) (SeqAt.canLay_of_shaped sd) (room_in_shaped sd hu) ⟨.bl _, H, I, rfl, q⟩
  | str z =>
    cases d with
    | str z' =>
      cases hd; cases he
      have e := Option.some.inj hc
      subst e
      exact op_in_str pins s σ H _ _ v u Q I rx ry ⟨_, _, rfl, rfl, q⟩
    | _ => cases hc
  | _ => cases d <;> cases hc
theorem opr_notin (hr : Room k X.A) : OpR X (compareOp .NotIn) (rInX true X.K) := by
  intro pins s σ H x y v u Q I rx ry h
  obtain ⟨d, e, c, hd, he, sd, se, hc, q⟩ := h
  have hu : X.A.units + 65 < cLine := by have := hr.un; omega
  cases e with
  | list ds =>
    obtain ⟨as, r1⟩ := Dp.reads I d x v hd rx
    obtain ⟨bs, r2⟩ := Dp.reads I (.list ds) y u he ry
    have e : c = ds.any fun z => PyData.eqv z d := by cases d <;> exact (Option.some.inj hc).symm
    subst e
    exact SeqAt.notIn_list_reads r2 r1 (SeqAt.canLay_of_shaped se) (SeqAt.canLay_of_shaped sd) (room_in_shaped sd hu) ⟨.bl _, H, I, rfl, q⟩
  | tuple ds =>
    obtain ⟨as, r1⟩ := Dp.reads I d x v hd rx
    obtain ⟨bs, r2⟩ := Dp.reads I (.tuple ds) y u he ry
    have e : c = ds.any fun z => PyData.eqv z d := by cases d <;> exact (Option.some.inj hc).symm
    subst e
    exact SeqAt.notIn_tuple_reads r2 r1 (SeqAt.canLay_of_shaped se) (SeqAt.canLay_of_shaped sd) (room_in_shaped sd hu) ⟨.bl _, H, I, rfl, q⟩
  | str z =>
    cases d with
    | str z' =>
      cases hd; cases he
      have e := Option.some.inj hc
      subst e
      exact op_notin_str pins s σ H _ _ v u Q I rx ry ⟨_, _, rfl, rfl, q⟩
    | _ => cases hc
  | _ => cases d <;> cases hc
theorem gInv_some {x y : PV} {c : Bool} (h : gInv x y = some c) : ∃ d e, toD x = some d ∧ toD y = some e ∧ SeqAt.shaped d = true ∧ SeqAt.shaped e = true ∧ inD d e = some c := by
  unfold gInv at h
  split at h
  · rename_i d e h1 h2
    split at h
    · rename_i c
      exact ⟨d, e, h1, h2, c.1, c.2, h⟩
    · cases h
  · cases h
theorem pm_in (hr : Room k X.A) (ha : PM X Tb W a ma) (hb : PM X Tb W b mb) (hm : behindInMarks .In b = false := by rfl) : PM X Tb W (.Compare a [.In] [b] pos) (mOp (pure2 gIn) ma mb) := pm_cmp (opr_in hr) (pure2_of fun ρ F h H x y v w z s rx ry e => by
  unfold gIn gDD at e
  obtain ⟨c, e1, rfl⟩ := Option.map_eq_some_iff.mp e
  obtain ⟨d, d', h1, h2, h3, h4, h5⟩ := gInv_some e1
  exact ⟨_, .bl _, fun Q q => ⟨d, d', c, RV.dp s.le _ _ _ rx h1, RV.dp s.le _ _ _ ry h2, h3, h4, h5, q⟩⟩) ha hb hm
theorem pm_notin (hr : Room k X.A) (ha : PM X Tb W a ma) (hb : PM X Tb W b mb) (hm : behindInMarks .NotIn b = false := by rfl) : PM X Tb W (.Compare a [.NotIn] [b] pos) (mOp (pure2 gNotIn) ma mb) := pm_cmp (opr_notin hr) (pure2_of fun ρ F h H x y v w z s rx ry e => by
  unfold gNotIn gDD at e
  obtain ⟨c, e1, rfl⟩ := Option.map_eq_some_iff.mp e
  obtain ⟨c', e2, rfl⟩ := Option.map_eq_some_iff.mp e1
  obtain ⟨d, d', h1, h2, h3, h4, h5⟩ := gInv_some e2
  exact ⟨_, .bl _, fun Q q => ⟨d, d', c', RV.dp s.le _ _ _ rx h1, RV.dp s.le _ _ _ ry h2, h3, h4, h5, q⟩⟩) ha hb hm
end
end PM
end
section
set_option Elab.async false
set_option linter.all false
set_option maxRecDepth 100000
set_option autoImplicit false
set_option maxHeartbeats 4000000
namespace PM
open PySem PySem.Spec PyProof.Rows L2

/-! ### tests -/
def asB (x : PV) (h : Hm) : Res Bool := match x with
  | .bl b => .ok b h
  | _ => .stuck
def mTst (m : M PV) : M Bool := fun e h => (m e h).bind asB
def mAnd (a b : M Bool) : M Bool := fun e h => (a e h).bind fun x h1 => if x = true then b e h1 else .ok false h1
def mOr (a b : M Bool) : M Bool := fun e h => (a e h).bind fun x h1 => if x = true then .ok true h1 else b e h1
def mNot (a : M Bool) : M Bool := fun e h => (a e h).bind fun x h1 => .ok (!x) h1
def mIf {α : Type} (c : M Bool) (a b : M α) : M α := fun e h => (c e h).bind fun x h1 => if x = true then a e h1 else b e h1
/-- the value of a test -/
def mVal (m : M Bool) : M PV := fun e h => (m e h).bind fun b h1 => .ok (.bl b) h1
section
variable {K : PySem.W.Frag} {Tb : TBs} {W : WX}
theorem tTest_of {m : M PV} (σ : L2.St) (H : Hp) (Q : Bool → Hp → Prop) (q : rT K Tb W (mTst m) σ H Q) : rE K Tb W m σ H fun x H' => ∃ k, x = .bl k ∧ Q k H' := by
  obtain ⟨ρ, F, e, h, s, re, p⟩ := rd_bind (R := RV K) (k := fun x => fun _ h => asB x h) q
  refine ⟨ρ, F, e, h, s, re, post_imp p fun v H1 ⟨ρ1, F1, e1, h1, x, s1, re1, rx, p1⟩ => ?_⟩
  unfold asB at p1
  split at p1
  · cases rx
    exact ⟨_, rfl, post_ret p1 s1 rfl⟩
  · exact p1.elim
variable {X : Cx} {a b c : Expr} {rest : List Expr} {ma mb : M PV} {ta tb tc : M Bool} {pos : Pos} {k : Nat}
theorem pmt_val (h : PM X Tb W a ma) (he : ∀ whole, isTrue a X.env whole = (do let v ← whole; standAt a.pos; holding [v] (truthy v)) := by intro _; rfl) : PMT X Tb W a (mTst ma) :=
  ⟨PT.imp (pt_val h.pe he) fun σ H Q q => tTest_of σ H Q q⟩
theorem pmt_cmp {op : CmpOp} {r : R2} {f : PV → PV → Hm → Res PV} (ho : OpR X (compareOp op) r) (hf : OpM X.K Tb W f r) (ha : PM X Tb W a ma) (hb : PM X Tb W b mb) (hm : behindInMarks op b = false) : PMT X Tb W (.Compare a [op] [b] pos) (mTst (mOp f ma mb)) :=
  ⟨PT.imp (pt_cmpR ho ha.pe hb.pe hm) fun σ H Q q => tOp_of hf σ H _ (tTest_of σ H Q q)⟩
/-- and, or, by tests -/
theorem pmw_and1 (h : PMT X Tb W a ta) : PMW X Tb W (.BoolOp .And [a] pos) ta := ⟨pw_and1 h.pt⟩
theorem pmw_or1 (h : PMT X Tb W a ta) : PMW X Tb W (.BoolOp .Or [a] pos) ta := ⟨pw_or1 h.pt⟩
theorem pmw_and (ha : PMT X Tb W a ta) (hb : PMW X Tb W (.BoolOp .And (b :: rest) pos) tb) : PMW X Tb W (.BoolOp .And (a :: b :: rest) pos) (mAnd ta tb) := ⟨PW.imp (pw_and ha.pt hb.pw) fun σ H Q q => by
  obtain ⟨ρ, F, e, h, s, re, p⟩ := rd_bind (R := fun _ _ (a b : Bool) => a = b) (k := fun x => fun e h1 => if x = true then tb e h1 else .ok false h1) q
  refine ⟨ρ, F, e, h, s, re, post_imp p fun v H1 ⟨ρ1, F1, e1, h1, x, s1, re1, rx, p1⟩ => ?_⟩
  subst rx
  cases x with
  | true => exact ⟨ρ1, F1, e1, h1, s1, re1, p1⟩
  | false => exact post_ret p1 s1 rfl⟩
theorem pmw_or (ha : PMT X Tb W a ta) (hb : PMW X Tb W (.BoolOp .Or (b :: rest) pos) tb) : PMW X Tb W (.BoolOp .Or (a :: b :: rest) pos) (mOr ta tb) := ⟨PW.imp (pw_or ha.pt hb.pw) fun σ H Q q => by
  obtain ⟨ρ, F, e, h, s, re, p⟩ := rd_bind (R := fun _ _ (a b : Bool) => a = b) (k := fun x => fun e h1 => if x = true then .ok true h1 else tb e h1) q
  refine ⟨ρ, F, e, h, s, re, post_imp p fun v H1 ⟨ρ1, F1, e1, h1, x, s1, re1, rx, p1⟩ => ?_⟩
  subst rx
  cases x with
  | false => exact ⟨ρ1, F1, e1, h1, s1, re1, p1⟩
  | true => exact post_ret p1 s1 rfl⟩
theorem pmt_w (h : PMW X Tb W a ta) : PMT X Tb W a ta := ⟨h.pw.pt⟩
theorem pmt_not (ha : PMT X Tb W a ta) : PMT X Tb W (.UnaryOp .Not a pos) (mNot ta) := ⟨PT.imp (pt_not ha.pt) fun σ H Q q => by
  obtain ⟨ρ, F, e, h, s, re, p⟩ := rd_bind (R := fun _ _ (a b : Bool) => a = b) (k := fun x => fun e h1 => .ok (!x) h1) q
  refine ⟨ρ, F, e, h, s, re, post_imp p fun v H1 ⟨ρ1, F1, e1, h1, x, s1, re1, rx, p1⟩ => ?_⟩
  subst rx
  exact post_ret p1 s1 rfl⟩
/-- and, or, not, as values -/
def mAndV (a b : M PV) : M PV := fun e h => (a e h).bind fun x h1 => match x with
  | .bl true => b e h1
  | .bl false => .ok (.bl false) h1
  | _ => .stuck
def mOrV (a b : M PV) : M PV := fun e h => (a e h).bind fun x h1 => match x with
  | .bl true => .ok (.bl true) h1
  | .bl false => b e h1
  | _ => .stuck
def mNotV (a : M PV) : M PV := fun e h => (a e h).bind fun x h1 => match x with
  | .bl b => .ok (.bl (!b)) h1
  | _ => .stuck
theorem pm_one {op : BoolOp} (h : PM X Tb W a ma) : PM X Tb W (.BoolOp op [a] pos) ma := ⟨pe_one h.pe⟩
theorem pm_and (ha : PM X Tb W a ma) (hb : PM X Tb W (.BoolOp .And (b :: rest) pos) mb) : PM X Tb W (.BoolOp .And (a :: b :: rest) pos) (mAndV ma mb) := ⟨PE.imp (pe_and ha.pe hb.pe) fun σ H Q q => by
  obtain ⟨ρ, F, e, h, s, re, p⟩ := rd_bind (R := RV X.K) (k := fun x => fun e h1 => match x with
    | .bl true => mb e h1
    | .bl false => .ok (.bl false) h1
    | _ => .stuck) q
  refine ⟨ρ, F, e, h, s, re, post_imp p fun v H1 ⟨ρ1, F1, e1, h1, x, s1, re1, rx, p1⟩ => ?_⟩
  cases rx with
  | bl b =>
    cases b with
    | true => exact ⟨true, rfl, ρ1, F1, e1, h1, s1, re1, p1⟩
    | false => exact ⟨false, rfl, post_ret p1 s1 (.bl _)⟩
  | _ => exact p1.elim⟩
theorem pm_or (ha : PM X Tb W a ma) (hb : PM X Tb W (.BoolOp .Or (b :: rest) pos) mb) : PM X Tb W (.BoolOp .Or (a :: b :: rest) pos) (mOrV ma mb) := ⟨PE.imp (pe_or ha.pe hb.pe) fun σ H Q q => by
  obtain ⟨ρ, F, e, h, s, re, p⟩ := rd_bind (R := RV X.K) (k := fun x => fun e h1 => match x with
    | .bl true => .ok (.bl true) h1
    | .bl false => mb e h1
    | _ => .stuck) q
  refine ⟨ρ, F, e, h, s, re, post_imp p fun v H1 ⟨ρ1, F1, e1, h1, x, s1, re1, rx, p1⟩ => ?_⟩
  cases rx with
  | bl b =>
    cases b with
    | false => exact ⟨false, rfl, ρ1, F1, e1, h1, s1, re1, p1⟩
    | true => exact ⟨true, rfl, post_ret p1 s1 (.bl _)⟩
  | _ => exact p1.elim⟩
theorem pm_not (ha : PM X Tb W a ma) : PM X Tb W (.UnaryOp .Not a pos) (mNotV ma) := ⟨PE.imp (pe_not ha.pe) fun σ H Q q => by
  obtain ⟨ρ, F, e, h, s, re, p⟩ := rd_bind (R := RV X.K) (k := fun x => fun e h1 => match x with
    | .bl b => .ok (PV.bl (!b)) h1
    | _ => .stuck) q
  refine ⟨ρ, F, e, h, s, re, post_imp p fun v H1 ⟨ρ1, F1, e1, h1, x, s1, re1, rx, p1⟩ => ?_⟩
  cases rx with
  | bl b => exact ⟨b, rfl, post_ret p1 s1 (.bl _)⟩
  | _ => exact p1.elim⟩
def gNeg : PV → Option PV
  | .int i => some (.int (-i))
  | _ => none
def mUn (g : PV → Option PV) (a : M PV) : M PV := fun e h => (a e h).bind fun x h1 => match g x with
  | some z => .ok z h1
  | none => .stuck
theorem pm_neg (ha : PM X Tb W a ma) : PM X Tb W (.UnaryOp .USub a pos) (mUn gNeg ma) := ⟨PE.imp (pe_un un_neg ha.pe) fun σ H Q q => by
  obtain ⟨ρ, F, e, h, s, re, p⟩ := rd_bind (R := RV X.K) (k := fun x => fun e h1 => match gNeg x with
    | some z => .ok z h1
    | none => .stuck) q
  refine ⟨ρ, F, e, h, s, re, post_imp p fun v H1 ⟨ρ1, F1, e1, h1, x, s1, re1, rx, p1⟩ => ?_⟩
  cases rx with
  | int i => exact ⟨i, rfl, post_ret p1 s1 (.int _)⟩
  | _ => exact p1.elim⟩
theorem pm_ifexp (hc : PMT X Tb W c tc) (ha : PM X Tb W a ma) (hb : PM X Tb W b mb) : PM X Tb W (.IfExp c a b pos) (mIf tc ma mb) := ⟨PE.imp (pe_ifExp hc.pt ha.pe hb.pe) fun σ H Q q => by
  obtain ⟨ρ, F, e, h, s, re, p⟩ := rd_bind (R := fun _ _ (a b : Bool) => a = b) (k := fun x => fun e h1 => if x = true then ma e h1 else mb e h1) q
  refine ⟨ρ, F, e, h, s, re, post_imp p fun v H1 ⟨ρ1, F1, e1, h1, x, s1, re1, rx, p1⟩ => ?_⟩
  subst rx
  cases x with
  | true => exact ⟨ρ1, F1, e1, h1, s1, re1, p1⟩
  | false => exact ⟨ρ1, F1, e1, h1, s1, re1, p1⟩⟩
/-- a < b < c -/
def mChain (f g : PV → PV → Hm → Res PV) (a b c : M PV) : M PV := fun e h => (a e h).bind fun x h1 => (b e h1).bind fun y h2 => (f x y h2).bind fun z h3 => match z with
  | .bl true => (c e h3).bind fun w h4 => g y w h4
  | .bl false => .ok (.bl false) h3
  | _ => .stuck
theorem tChain_of {r r' : R2} {f g : PV → PV → Hm → Res PV} {mc : M PV} (hf : OpM K Tb W f r) (hg : OpM K Tb W g r') (σ : L2.St) (H : Hp) (Q : VK) (q : rE K Tb W (mChain f g ma mb mc) σ H Q) : tChain r r' (rE K Tb W ma) (rE K Tb W mb) (rE K Tb W mc) σ H Q := by
  obtain ⟨ρ, F, e, h, s, re, p⟩ := rd_bind (R := RV K) (k := fun x => fun e h1 => (mb e h1).bind fun y h2 => (f x y h2).bind fun z h3 => match z with
    | .bl true => (mc e h3).bind fun w h4 => g y w h4
    | .bl false => .ok (.bl false) h3
    | _ => .stuck) q
  refine ⟨ρ, F, e, h, s, re, post_imp p fun v H1 ⟨ρ1, F1, e1, h1, x, s1, re1, rx, p1⟩ => ?_⟩
  refine ⟨ρ1, F1, e1, h1, s1, re1, post_imp (post_bind (R := RV K) p1) fun w H2 t => ?_⟩
  obtain ⟨ρ2, F2, h2, y, ex, s2, ry, p2⟩ := t.ex
  refine hf ρ2 F2 h2 H2 σ x y v w _ s2 (ex.rv rx) ry (post_imp (post_bind (R := RV K) p2) fun z H3 t3 => ?_)
  obtain ⟨ρ3, F3, h3, zv, ex3, s3, rz, p3⟩ := t3.ex
  cases rz with
  | bl b =>
    cases b with
    | false => exact ⟨false, rfl, by rw [if_neg Bool.false_ne_true]; exact post_ret p3 s3 (.bl _)⟩
    | true =>
      refine ⟨true, rfl, ?_⟩
      rw [if_pos rfl]
      refine ⟨ρ3, F3, e1, h3, s3, (re1.ext ex).ext ex3, post_imp (post_bind (R := RV K) p3) fun w' H4 t4 => ?_⟩
      obtain ⟨ρ4, F4, h4, wv, ex4, s4, rw4, p4⟩ := t4.ex
      exact hg ρ4 F4 h4 H4 σ y wv w w' Q s4 (ex4.rv (ex3.rv ry)) rw4 p4
  | _ => exact p3.elim
end
end PM
end
section
set_option Elab.async false
set_option linter.all false
set_option maxRecDepth 100000
set_option autoImplicit false
set_option maxHeartbeats 4000000
namespace PM
open PySem PySem.Spec PyProof.Rows L2

/-! ### rows of expressions -/
def mNil : M (List PV) := fun _ h => .ok [] h
def mCons (a : M PV) (r : M (List PV)) : M (List PV) := fun e h => (a e h).bind fun x h1 => (r e h1).bind fun xs h2 => .ok (x :: xs) h2
section
variable {K : PySem.W.Frag} {X : Cx} {Tb : TBs} {W : WX} {a b c : Expr} {es : List Expr} {ma mb : M PV} {ms : M (List PV)} {pos : Pos} {k : Nat}
theorem pma_nil : PMA X Tb W [] mNil := ⟨PA.imp pa_nil fun σ H Q q => by
  obtain ⟨ρ, F, e, h, s, re, p⟩ := q
  exact post_ret p s .nil⟩
theorem pma_cons (ha : PM X Tb W a ma) (hr : PMA X Tb W es ms) (hs : starEach (a :: es) X.env = (false, eval a X.env) :: starEach es X.env := by rfl) : PMA X Tb W (a :: es) (mCons ma ms) := ⟨PA.imp (pa_cons ha.pe hr.pa hs) fun σ H Q q => by
  obtain ⟨ρ, F, e, h, s, re, p⟩ := rd_bind (R := RV X.K) (k := fun x => fun e h1 => (ms e h1).bind fun xs h2 => .ok (x :: xs) h2) q
  refine ⟨ρ, F, e, h, s, re, post_imp p fun v H1 ⟨ρ1, F1, e1, h1, x, s1, re1, rx, p1⟩ => ?_⟩
  refine ⟨ρ1, F1, e1, h1, s1, re1, post_imp (post_bind (R := RVs X.K) p1) fun vs H2 t => ?_⟩
  obtain ⟨ρ2, F2, h2, xs, ex, s2, rxs, p2⟩ := t.ex
  exact post_ret p2 s2 (.cons (ex.rv rx) rxs)⟩
/-- a row's values, then something that is made of them -/
theorem rA_bind {ms : M (List PV)} {f : List PV → Hm → Res PV} {σ : L2.St} {H : Hp} {Q : VK} {r : List V → Hp → VK → Prop}
    (hf : ∀ ρ F h H xs vs Q, Sim K Tb ρ F h H → RVs K ρ F xs vs → post K Tb W (RV K) ρ F H σ (f xs h) Q → r vs H Q) (q : rE K Tb W (fun e h => (ms e h).bind fun xs h1 => f xs h1) σ H Q) : rA K Tb W ms σ H fun vs H1 => r vs H1 Q := by
  obtain ⟨ρ, F, e, h, s, re, p⟩ := rd_bind (R := RVs K) (k := fun xs => fun _ h1 => f xs h1) q
  exact ⟨ρ, F, e, h, s, re, post_imp p fun vs H1 ⟨ρ1, F1, e1, h1, xs, s1, re1, rx, p1⟩ => hf ρ1 F1 h1 H1 xs vs Q s1 rx p1⟩
def mTup (ms : M (List PV)) : M PV := fun e h => (ms e h).bind fun xs h1 => if xs.length ≤ 1000000 then .ok (.tup xs) h1 else .stuck
def mLst (ms : M (List PV)) : M PV := fun e h => (ms e h).bind fun xs h1 => if xs.length ≤ 1000000 then .ok (.lst xs) h1 else .stuck
theorem mil {n : Nat} (h : n ≤ 1000000) : n ≤ sizeLine := Nat.le_trans h (by decide)
theorem pm_tup {x1} (hs : PMA X Tb W es ms) : PM X Tb W (.Tuple es x1 pos) (mTup ms) := ⟨PE.imp (pe_tup hs.pa) fun σ H Q q => rA_bind (r := fun xs H1 Q => xs.length ≤ sizeLine ∧ ∀ p, H1 p = none → Q (.ref p) (upd H1 p (.tup xs))) (fun ρ F h H xs vs Q s rx p => by
  split at p
  · rename_i c
    refine ⟨by rw [← rx.len]; exact mil c, fun a na => ?_⟩
    obtain ⟨s1, ex⟩ := s.laid (o := .tup vs) na (fun ps z => by cases z)
    exact p _ _ _ _ ex s1 (.tup (.inl (.inl upd_same)) (ex.rvs rx))
  · exact p.elim) q⟩
theorem pm_lst (hs : PMA X Tb W es ms) : PM X Tb W (.List es pos) (mLst ms) := ⟨PE.imp (pe_lst hs.pa) fun σ H Q q => rA_bind (r := fun xs H1 Q => xs.length ≤ sizeLine ∧ ∀ p, H1 p = none → Q (.ref p) (upd H1 p (.lst xs))) (fun ρ F h H xs vs Q s rx p => by
  split at p
  · rename_i c
    refine ⟨by rw [← rx.len]; exact mil c, fun a na => ?_⟩
    obtain ⟨s1, ex⟩ := s.laid (o := .lst vs) na (fun ps z => by cases z)
    exact p _ _ _ _ ex s1 (.lst (.inl (.inl upd_same)) (ex.rvs rx))
  · exact p.elim) q⟩
/-- a list that may change, in the heap -/
def mNew (ms : M (List PV)) : M PV := fun e h => (ms e h).bind fun xs h1 => if xs.length ≤ 1000000 then .ok (.ref h1.length) (h1 ++ [.lst xs]) else .stuck
theorem pm_new (hs : PMA X Tb W es ms) : PM X Tb W (.List es pos) (mNew ms) := ⟨PE.imp (pe_lst hs.pa) fun σ H Q q => rA_bind (r := fun xs H1 Q => xs.length ≤ sizeLine ∧ ∀ p, H1 p = none → Q (.ref p) (upd H1 p (.lst xs))) (fun ρ F h H xs vs Q s rx p => by
  split at p
  · rename_i c
    refine ⟨by rw [← rx.len]; exact mil c, fun a na => ?_⟩
    obtain ⟨s1, ex⟩ := s.alloc (o := .lst xs) (O := .lst vs) na (.lst rx) (fun ps z => by cases z)
    exact p _ _ _ _ ex s1 (.ref (by rw [← s.len]; simp))
  · exact p.elim) q⟩

/-! ### a[i] -/
/-- the list at a number, or the tree's own -/
def listOf (h : Hm) : PV → Option (List PV)
  | .lst xs => some xs
  | .ref i => match h[i]? with
    | some (.lst xs) => some xs
    | none => none
  | _ => none
theorem listOf_at {ρ : List Addr} {F H : Hp} {h : Hm} {x : PV} {v : V} {xs : List PV} (s : Sim K Tb ρ F h H) (r : RV K ρ F x v) (e : listOf h x = some xs) : ∃ a vs, v = .ref a ∧ SqL K H a vs ∧ RVs K ρ F xs vs := by
  cases r with
  | lst q rr =>
    simp only [listOf] at e
    cases e
    exact ⟨_, _, rfl, sqL_le s.le q, rr⟩
  | ref q =>
    simp only [listOf] at e
    split at e
    · rename_i ys e1
      cases e
      obtain ⟨p, O, e2, e3, ro⟩ := s.ob _ _ e1
      rw [q] at e2
      cases e2
      cases ro with
      | lst rr => exact ⟨_, _, rfl, .inl (.inl e3), rr⟩
    · cases e
  | _ => simp [listOf] at e
/-- a row: a list or a tuple -/
def rowOf (h : Hm) : PV → Option (List PV)
  | .tup xs => some xs
  | x => listOf h x
theorem rowOf_at {ρ : List Addr} {F H : Hp} {h : Hm} {x : PV} {v : V} {xs : List PV} (s : Sim K Tb ρ F h H) (r : RV K ρ F x v) (e : rowOf h x = some xs) : ∃ a vs, v = .ref a ∧ (SqL K H a vs ∨ SqT K H a vs) ∧ RVs K ρ F xs vs := by
  cases r with
  | tup q rr =>
    simp only [rowOf] at e
    cases e
    exact ⟨_, _, rfl, .inr (sqT_le s.le q), rr⟩
  | lst q rr =>
    obtain ⟨a, vs, h1, h2, h3⟩ := listOf_at s (.lst q rr) (show listOf h _ = some xs from e)
    exact ⟨a, vs, h1, .inl h2, h3⟩
  | ref q =>
    obtain ⟨a, vs, h1, h2, h3⟩ := listOf_at s (.ref q) (show listOf h _ = some xs from e)
    exact ⟨a, vs, h1, .inl h2, h3⟩
  | _ => simp [rowOf, listOf] at e
def fIx (x y : PV) (h : Hm) : Res PV := match x, y with
  | .str z, .int i => if z.length ≤ 1000000 then (match atI z.cps.toList i with
    | some c => .ok (.str ⟨#[c]⟩) h
    | none => .stuck) else .stuck
  | x, .int i => (match rowOf h x with
    | some xs => (match atI xs i with
      | some v => .ok v h
      | none => .stuck)
    | none => .stuck)
  | _, _ => .stuck
theorem atI_rvs {ρ : List Addr} {F : Hp} {xs : List PV} {vs : List V} {i : Int} {x : PV} (r : RVs K ρ F xs vs) (e : atI xs i = some x) : ∃ v, atI vs i = some v ∧ RV K ρ F x v := by
  unfold atI at e ⊢
  rw [r.len] at e
  cases q : ixN vs.length i with
  | none => rw [q] at e; cases e
  | some j =>
    rw [q] at e
    exact r.get e
theorem fIx_ok : OpM K Tb W fIx (rIx K) := by
  intro ρ F h H σ x y v w Q s rx ry q
  cases ry with
  | int i =>
    by_cases hstr : ∃ z, x = .str z
    · obtain ⟨z, rfl⟩ := hstr
      cases rx
      simp only [fIx] at q
      split at q
      · rename_i c
        split at q
        · rename_i cc e
          exact .inr (.inr ⟨z, i, cc, rfl, rfl, mil c, e, post_ret q s (.str _)⟩)
        · exact q.elim
      · exact q.elim
    · have e0 : fIx x (.int i) h = (match rowOf h x with
        | some xs => (match atI xs i with
          | some v => .ok v h
          | none => .stuck)
        | none => .stuck) := by
        cases x <;> first | rfl | exact absurd ⟨_, rfl⟩ hstr
      rw [e0] at q
      split at q
      · rename_i xs e
        obtain ⟨a, vs, rfl, hs, rr⟩ := rowOf_at s rx e
        split at q
        · rename_i z e1
          obtain ⟨u, h1, h2⟩ := atI_rvs rr e1
          have q2 := post_ret q s h2
          rcases hs with hs | hs
          · exact .inl ⟨a, vs, i, u, rfl, rfl, hs, h1, q2⟩
          · exact .inr (.inl ⟨a, vs, i, u, rfl, rfl, hs, h1, q2⟩)
        · exact q.elim
      · exact q.elim
  | _ =>
    cases x <;> exact q.elim
theorem pm_ix (ha : PM X Tb W a ma) (hb : PM X Tb W b mb) (hs : PlainIx b := by exact fun _ _ => rfl) : PM X Tb W (.Subscript a b pos) (mOp fIx ma mb) :=
  ⟨PE.imp (pe_ix ix_seq ha.pe hb.pe hs) fun σ H Q q => tOp_of fIx_ok σ H Q q⟩

/-! ### a[lo:hi] -/
def asI (x : PV) (h : Hm) : Res (Option Int) := match x with
  | .int i => .ok (some i) h
  | _ => .stuck
def mNoPart : M (Option Int) := fun _ h => .ok none h
def mPart (m : M PV) : M (Option Int) := fun e h => (m e h).bind asI
structure PMO (X : Cx) (Tb : TBs) (W : WX) (e : Option Expr) (m : M (Option Int)) : Prop where
  po : PO X e (rd X.K Tb W (fun _ _ (a b : Option Int) => a = b) m)
theorem PO.imp {e : Option Expr} {t t' : TO} (h : PO X e t) (i : ∀ σ H Q, t' σ H Q → t σ H Q) : PO X e t' := ⟨fun pins s σ H Q I q => h.run pins s σ H Q I (i σ H Q q)⟩
theorem pmo_none : PMO X Tb W none mNoPart := ⟨PO.imp po_none fun σ H Q q => by
  obtain ⟨ρ, F, e, h, s, re, p⟩ := q
  exact post_ret p s rfl⟩
theorem pmo_some (ha : PM X Tb W a ma) : PMO X Tb W (some a) (mPart ma) := ⟨PO.imp (po_some ha.pe) fun σ H Q q => by
  obtain ⟨ρ, F, e, h, s, re, p⟩ := rd_bind (R := RV X.K) (k := fun x => fun _ h => asI x h) q
  refine ⟨ρ, F, e, h, s, re, post_imp p fun v H1 ⟨ρ1, F1, e1, h1, x, s1, re1, rx, p1⟩ => ?_⟩
  cases rx with
  | int i => exact ⟨i, rfl, post_ret p1 s1 rfl⟩
  | _ => exact p1.elim⟩
def cutP (xs : List PV) (lo hi : Option Int) : List PV := (xs.drop (HT.sIx xs.length 0 lo)).take (HT.sIx xs.length xs.length hi - HT.sIx xs.length 0 lo)
def fSl (x : PV) (lo hi : Option Int) (h : Hm) : Res PV := match x with
  | .str z => if z.length ≤ 1000000 then .ok (.str (cutS z lo hi)) h else .stuck
  | .tup xs => if HT.sIx xs.length 0 lo = 0 ∧ HT.sIx xs.length xs.length hi = xs.length then .stuck else .ok (.tup (cutP xs lo hi)) h
  | x => match listOf h x with
    | some xs => .ok (.lst (cutP xs lo hi)) h
    | none => .stuck
def mSl (m : M PV) (l u : M (Option Int)) : M PV := fun e h => (m e h).bind fun x h1 => (l e h1).bind fun lo h2 => (u e h2).bind fun hi h3 => fSl x lo hi h3
theorem cutP_rvs {ρ : List Addr} {F : Hp} {xs : List PV} {vs : List V} (lo hi : Option Int) (r : RVs K ρ F xs vs) : RVs K ρ F (cutP xs lo hi) (cutV vs lo hi) := by
  unfold cutP cutV
  rw [r.len]
  exact (r.drop _).take _
def rSl (K : PySem.W.Frag) : V → Option Int → Option Int → Hp → VK → Prop := fun x lo hi H Q => rSlL K x lo hi H Q ∨ rSlT K x lo hi H Q ∨ rSlS x lo hi H Q
theorem sl_all : SlR X (rSl X.K) := sl_list.or (sl_tup.or sl_str)
theorem fSl_ok {ρ : List Addr} {F H : Hp} {h : Hm} {σ : L2.St} {x : PV} {v : V} {lo hi : Option Int} {Q : VK} (s : Sim K Tb ρ F h H) (rx : RV K ρ F x v) (q : post K Tb W (RV K) ρ F H σ (fSl x lo hi h) Q) : rSl K v lo hi H Q := by
  have lst : ∀ xs, listOf h x = some xs → post K Tb W (RV K) ρ F H σ (.ok (.lst (cutP xs lo hi)) h) Q → rSl K v lo hi H Q := fun xs e q => by
    obtain ⟨a, vs, rfl, hs, rr⟩ := listOf_at s rx e
    refine .inl ⟨a, vs, rfl, hs, fun p np => ?_⟩
    obtain ⟨s1, ex⟩ := s.laid (o := .lst (cutV vs lo hi)) np (fun ps z => by cases z)
    exact q _ _ _ _ ex s1 (.lst (.inl (.inl upd_same)) (ex.rvs (cutP_rvs lo hi rr)))
  cases rx with
  | str z =>
    simp only [fSl] at q
    split at q
    · rename_i c
      exact .inr (.inr ⟨z, rfl, mil c, post_ret q s (.str _)⟩)
    · exact q.elim
  | @tup a vs xs hs rr =>
    simp only [fSl] at q
    split at q
    · exact q.elim
    · rename_i c
      refine .inr (.inl ⟨a, vs, rfl, sqT_le s.le hs, by rw [← rr.len]; exact c, fun p np => ?_⟩)
      obtain ⟨s1, ex⟩ := s.laid (o := .tup (cutV vs lo hi)) np (fun ps z => by cases z)
      exact q _ _ _ _ ex s1 (.tup (.inl (.inl upd_same)) (ex.rvs (cutP_rvs lo hi rr)))
  | lst hs rr => exact lst _ rfl q
  | @ref i a e =>
    simp only [fSl] at q
    split at q
    · rename_i xs e1
      exact lst xs e1 q
    · exact q.elim
  | _ => simp only [fSl, listOf] at q; exact q.elim
theorem pm_sl {lo hi : Option Expr} {ml mu : M (Option Int)} {p2 : Pos} (ha : PM X Tb W a ma) (hl : PMO X Tb W lo ml) (hu : PMO X Tb W hi mu) : PM X Tb W (.Subscript a (.Slice lo hi none p2) pos) (mSl ma ml mu) := ⟨PE.imp (pe_slice sl_all ha.pe hl.po hu.po) fun σ H Q q => by
  obtain ⟨ρ, F, e, h, s, re, p⟩ := rd_bind (R := RV X.K) (k := fun x => fun e h1 => (ml e h1).bind fun lo h2 => (mu e h2).bind fun hi h3 => fSl x lo hi h3) q
  refine ⟨ρ, F, e, h, s, re, post_imp p fun v H1 ⟨ρ1, F1, e1, h1, x, s1, re1, rx, p1⟩ => ?_⟩
  refine ⟨ρ1, F1, e1, h1, s1, re1, post_imp (post_bind (R := fun _ _ (a b : Option Int) => a = b) p1) fun lo H2 t => ?_⟩
  obtain ⟨ρ2, F2, h2, y, ex, s2, ry, p2⟩ := t.ex
  subst ry
  refine ⟨ρ2, F2, e1, h2, s2, re1.ext ex, post_imp (post_bind (R := fun _ _ (a b : Option Int) => a = b) p2) fun hi H3 t => ?_⟩
  obtain ⟨ρ3, F3, h3, z, ex3, s3, rz, p3⟩ := t.ex
  subst rz
  exact fSl_ok s3 (ex3.rv (ex.rv rx)) p3⟩
end
end PM
end
section
set_option Elab.async false
set_option linter.all false
set_option maxRecDepth 100000
set_option autoImplicit false
set_option maxHeartbeats 4000000
namespace PM
open PySem PySem.Spec PyProof.Rows L2

/-- how a statement ends -/
inductive Fl where
  | nx (e : En) (h : Hm) | rt (v : PV) (h : Hm) | bk (e : En) (h : Hm) | ct (e : En) (h : Hm)
  | exc (c : Str) (e : En) (h : Hm) | stuck
abbrev Sm := En → Hm → Fl
/-- the entry of a def -/
structure Bs where
  ρ : List Addr
  F : Hp
  H : Hp
  /-- what a loop stands on -/
  ρu : List Addr
  Fu : Hp
def Up (ρ0 : List Addr) (F0 : Hp) (ρ : List Addr) (F : Hp) : Prop := (∀ (i : Nat) (a : Addr), ρ0[i]? = some a → ρ[i]? = some a) ∧ ∀ p o, F0 p = some o → F p = some o
theorem Up.ext {ρ ρ' ρ0 : List Addr} {F F' F0 H H' : Hp} (u : Up ρ0 F0 ρ F) (x : Ext ρ F H ρ' F' H') : Up ρ0 F0 ρ' F' := ⟨fun i a e => x.ix _ _ (u.1 i a e), fun p o e => x.up p o (u.2 p o e)⟩
/-- the names, with own lists that are younger than the entry -/
structure RB (K : PySem.W.Frag) (B : Bs) (ρ : List Addr) (F H : Hp) (e : En) (σ : L2.St) : Prop where
  re : RE K ρ F H e σ
  yg : ∀ (i : Nat) xs p, e[i]? = some (.own xs) → σ[i]? = some (some (.ref p)) → B.H p = none
structure At (K : PySem.W.Frag) (Tb : TBs) (B : Bs) (ρ : List Addr) (F H : Hp) (e : En) (h : Hm) (σ : L2.St) : Prop where
  ex : Ext B.ρ B.F B.H ρ F H
  s : Sim K Tb ρ F h H
  rb : RB K B ρ F H e σ
  u : Up B.ρu B.Fu ρ F
section
variable (K : PySem.W.Frag) (Tb : TBs) (W : WX) (B : Bs)
def postS (f : Fl) (D : Ends) : Prop := match f with
  | .nx e h => ∀ ρ F H σ, At K Tb B ρ F H e h σ → D.nx σ H
  | .bk e h => ∀ ρ F H σ, At K Tb B ρ F H e h σ → D.bk σ H
  | .ct e h => ∀ ρ F H σ, At K Tb B ρ F H e h σ → D.ct σ H
  | .rt v h => ∀ ρ F H x, Ext B.ρ B.F B.H ρ F H → Sim K Tb ρ F h H → RV K ρ F v x → D.rt x H
  | .exc c e h => ∀ ρ F H σ, At K Tb B ρ F H e h σ → W (.ref (He.ga K c)) none σ H
  | .stuck => False
def rdS (m : Sm) : TS := fun D σ H => ∃ ρ F e h, At K Tb B ρ F H e h σ ∧ postS K Tb W B (m e h) D
end
section
variable {K : PySem.W.Frag} {Tb : TBs} {W : WX} {B : Bs} {ρ ρ' : List Addr} {F F' H H' : Hp} {e e' : En} {h h' : Hm} {σ : L2.St}
theorem RB.ext (r : RB K B ρ F H e σ) (x : Ext ρ F H ρ' F' H') : RB K B ρ' F' H' e σ := ⟨r.re.ext x, r.yg⟩
theorem At.ext (a : At K Tb B ρ F H e h σ) (x : Ext ρ F H ρ' F' H') (s : Sim K Tb ρ' F' h' H') : At K Tb B ρ' F' H' e h' σ := ⟨a.ex.trans x, s, a.rb.ext x, a.u.ext x⟩
/-- an expression's result, then a statement's end -/
def bindS {α : Type} (m : M α) (k : α → Sm) : Sm := fun e h => match m e h with
  | .ok v h1 => k v e h1
  | .exc c h1 => .exc c e h1
  | .stuck => .stuck
theorem rdS_bind {α β : Type} {R : List Addr → Hp → α → β → Prop} {m : M α} {k : α → Sm} {D : Ends} {H0 : Hp} (p : rdS K Tb W B (bindS m k) D σ H0) :
    rd K Tb W R m σ H0 fun x H1 => ∃ ρ F e h v, At K Tb B ρ F H1 e h σ ∧ R ρ F v x ∧ postS K Tb W B (k v e h) D := by
  obtain ⟨ρ, F, e, h, a, q⟩ := p
  refine ⟨ρ, F, e, h, a.s, a.rb.re, ?_⟩
  unfold bindS at q
  cases r : m e h with
  | ok v h1 =>
    rw [r] at q
    exact fun ρ1 F1 H1 x ex s1 r1 => ⟨ρ1, F1, e, h1, v, a.ext ex s1, r1, q⟩
  | exc c h1 =>
    rw [r] at q
    exact fun ρ1 F1 H1 ex s1 => q ρ1 F1 H1 σ (a.ext ex s1)
  | stuck => rw [r] at q; exact q
theorem postS_imp {f : Fl} {D D' : Ends} (p : postS K Tb W B f D) (n : ∀ e h, f = .nx e h → ∀ σ H, D.nx σ H → D'.nx σ H) (b : ∀ e h, f = .bk e h → ∀ σ H, D.bk σ H → D'.bk σ H) (c : ∀ e h, f = .ct e h → ∀ σ H, D.ct σ H → D'.ct σ H) (r : ∀ v H, D.rt v H → D'.rt v H) :
    postS K Tb W B f D' := by
  cases f with
  | nx e h => exact fun ρ F H σ a => n e h rfl _ _ (p ρ F H σ a)
  | bk e h => exact fun ρ F H σ a => b e h rfl _ _ (p ρ F H σ a)
  | ct e h => exact fun ρ F H σ a => c e h rfl _ _ (p ρ F H σ a)
  | rt v h => exact fun ρ F H x e s rv => r _ _ (p ρ F H x e s rv)
  | exc _ _ _ => exact p
  | stuck => exact p
end
structure PMS (X : Cx) (Tb : TBs) (W : WX) (st : Stmt) (m : Sm) : Prop where
  ps : ∀ B, PS X st (rdS X.K Tb W B m)
structure PMB (X : Cx) (Tb : TBs) (W : WX) (st : List Stmt) (m : Sm) : Prop where
  pb : ∀ B, PSs X st (rdS X.K Tb W B m)
def sNext : Sm := fun e h => .nx e h
def sSeq (a b : Sm) : Sm := fun e h => match a e h with
  | .nx e1 h1 => b e1 h1
  | r => r
def sRet (m : M PV) : Sm := bindS m fun v _ h => .rt v h
def sDrop (m : M PV) : Sm := bindS m fun _ e h => .nx e h
def sSet (i : Nat) (m : M PV) : Sm := bindS m fun v e h => .nx (e.set i (.val v)) h
def sIf (c : M Bool) (a b : Sm) : Sm := bindS c fun x => if x = true then a else b
section
variable {X : Cx} {Tb : TBs} {W : WX} {B : Bs} {st : Stmt} {rest body orelse : List Stmt} {a b c : Expr} {ma mb : M PV} {mt : M Bool} {sa sb : Sm} {pos : Pos} {k : Nat}
theorem pmb_nil : PMB X Tb W [] sNext := ⟨fun B => PSs.imp pss_nil fun D σ H q => by
  obtain ⟨ρ, F, e, h, a, q⟩ := q
  exact q ρ F H σ a⟩
theorem sSeq_of {D : Ends} {σ : L2.St} {H : Hp} (q : rdS X.K Tb W B (sSeq sa sb) D σ H) : rdS X.K Tb W B sa { D with nx := rdS X.K Tb W B sb D } σ H := by
  obtain ⟨ρ, F, e, h, at_, q⟩ := q
  refine ⟨ρ, F, e, h, at_, ?_⟩
  unfold sSeq at q
  cases r : sa e h with
  | nx e1 h1 =>
    rw [r] at q
    exact fun ρ1 F1 H1 σ1 a1 => ⟨ρ1, F1, e1, h1, a1, q⟩
  | _ => rw [r] at q; exact q
theorem pmb_cons (h1 : PMS X Tb W st sa) (h2 : PMB X Tb W rest sb) : PMB X Tb W (st :: rest) (sSeq sa sb) := ⟨fun B => PSs.imp (pss_cons (h1.ps B) (h2.pb B)) fun D σ H q => sSeq_of q⟩
theorem pmb_one (h1 : PMS X Tb W st sa) : PMB X Tb W [st] sa := ⟨fun B => pss_one (h1.ps B)⟩
theorem pms_pass : PMS X Tb W (.Pass pos) sNext := ⟨fun B => PS.imp ps_pass fun D σ H q => by
  obtain ⟨ρ, F, e, h, a, q⟩ := q
  exact q ρ F H σ a⟩
theorem pms_doc {x : Str} {j pos'} : PMS X Tb W (.Expr (.Constant (.str x) j pos) pos') sNext := ⟨fun B => PS.imp ps_doc fun D σ H q => by
  obtain ⟨ρ, F, e, h, a, q⟩ := q
  exact q ρ F H σ a⟩
theorem pms_ret (ha : PM X Tb W a ma) : PMS X Tb W (.Return (some a) pos) (sRet ma) := ⟨fun B => PS.imp (ps_ret ha.pe) fun D σ H q => by
  obtain ⟨ρ, F, e, h, s, re, p⟩ := rdS_bind (R := RV X.K) q
  refine ⟨ρ, F, e, h, s, re, post_imp p fun x H1 ⟨ρ1, F1, e1, h1, v, a1, rv, q1⟩ => q1 ρ1 F1 H1 x a1.ex a1.s rv⟩⟩
theorem pms_expr (ha : PM X Tb W a ma) (hs : swapsWith a none pos.line X.env = pure false := by rfl) : PMS X Tb W (.Expr a pos) (sDrop ma) := ⟨fun B => PS.imp (ps_expr ha.pe hs) fun D σ H q => by
  obtain ⟨ρ, F, e, h, s, re, p⟩ := rdS_bind (R := RV X.K) q
  exact ⟨ρ, F, e, h, s, re, post_imp p fun x H1 ⟨ρ1, F1, e1, h1, v, a1, rv, q1⟩ => q1 ρ1 F1 H1 σ a1⟩⟩
theorem RB.set {K : PySem.W.Frag} {ρ : List Addr} {F H : Hp} {e : En} {σ : L2.St} (r : RB K B ρ F H e σ) (i : Nat) {v : PV} {x : V} (rv : RV K ρ F v x) : RB K B ρ F H (e.set i (.val v)) (σ.set i (some x)) := ⟨r.re.set i rv, fun j xs p q1 q2 => by
  by_cases hj : j = i
  · subst hj
    have hl : j < e.length := by have := (List.getElem?_eq_some_iff.mp q1).1; simpa using this
    rw [List.getElem?_set_self hl] at q1
    cases q1
  · rw [List.getElem?_set_ne (Ne.symm hj)] at q1 q2
    exact r.yg j xs p q1 q2⟩
theorem At.set {K : PySem.W.Frag} {ρ : List Addr} {F H : Hp} {e : En} {h : Hm} {σ : L2.St} (r : At K Tb B ρ F H e h σ) (i : Nat) {v : PV} {x : V} (rv : RV K ρ F v x) : At K Tb B ρ F H (e.set i (.val v)) h (σ.set i (some x)) := ⟨r.ex, r.s, r.rb.set i rv, r.u⟩
theorem pms_set (i : Nat) {x : Str} {pos' : Pos} (ha : PM X Tb W a ma) (hN : X.N.Nodup) (hi : X.N[i]? = some x := by rfl) (hx : Loc X.env.scope x := by first | exact Or.inl rfl | exact Or.inr rfl) (hs : swapsWith a (some (.Name x pos')) pos.line X.env = pure false := by rfl)
    (hf : X.fn x = true ∨ X.env.scope.names.lookup x = some .local := by first | exact .inl rfl | exact .inr rfl) : PMS X Tb W (.Assign [.Name x pos'] a pos) (sSet i ma) := ⟨fun B => PS.imp (ps_set hN hi hx ha.pe hs hf) fun D σ H q => by
  obtain ⟨ρ, F, e, h, s, re, p⟩ := rdS_bind (R := RV X.K) q
  exact ⟨ρ, F, e, h, s, re, post_imp p fun x H1 ⟨ρ1, F1, e1, h1, v, a1, rv, q1⟩ => q1 ρ1 F1 H1 _ (a1.set i rv)⟩⟩
theorem pms_if (hc : PMT X Tb W c mt) (ha : PMB X Tb W body sa) (hb : PMB X Tb W orelse sb) : PMS X Tb W (.If c body orelse pos) (sIf mt sa sb) := ⟨fun B => PS.imp (ps_if hc.pt (ha.pb B) (hb.pb B)) fun D σ H q => by
  obtain ⟨ρ, F, e, h, s, re, p⟩ := rdS_bind (R := fun _ _ (a b : Bool) => a = b) q
  refine ⟨ρ, F, e, h, s, re, post_imp p fun x H1 ⟨ρ1, F1, e1, h1, v, a1, rv, q1⟩ => ?_⟩
  subst rv
  cases v with
  | true => exact ⟨ρ1, F1, e1, h1, a1, q1⟩
  | false => exact ⟨ρ1, F1, e1, h1, a1, q1⟩⟩
end

/-! ### targets -/
abbrev Gm := PV → En → Option En
/-- what a target leaves: own lists as they were, only the names vs changed -/
def Left (e e' : En) (σ σ' : L2.St) (vs : List Nat) : Prop := (∀ (i : Nat) xs, e'[i]? = some (.own xs) → e[i]? = some (.own xs) ∧ σ'[i]? = σ[i]?) ∧ (∀ i, i ∉ vs → σ'[i]? = σ[i]?) ∧ σ'.length = σ.length
def rG (K : PySem.W.Frag) (Tb : TBs) (g : Gm) (vs : List Nat) : TG := fun v σ H Q => ∃ ρ F e h pv e', Sim K Tb ρ F h H ∧ RE K ρ F H e σ ∧ RV K ρ F pv v ∧ g pv e = some e' ∧
  ∀ σ', RE K ρ F H e' σ' → Left e e' σ σ' vs → Q σ' H
structure PMG (X : Cx) (Tb : TBs) (tg : Expr) (g : Gm) (vs : List Nat) : Prop where
  pg : PG X tg (rG X.K Tb g vs)
theorem PG.imp {X : Cx} {e : Expr} {t t' : TG} (h : PG X e t) (i : ∀ v σ H Q, t' v σ H Q → t v σ H Q) : PG X e t' := ⟨fun pins s σ H v u Q I r q => h.run pins s σ H v u Q I r (i v σ H Q q)⟩
def gNm (i : Nat) : Gm := fun v e => some (e.set i (.val v))
theorem own_set {e : En} {i j : Nat} {v : PV} {xs : List PV} (h : (e.set i (.val v))[j]? = some (.own xs)) : j ≠ i ∧ e[j]? = some (.own xs) := by
  by_cases hj : j = i
  · subst hj
    have hl : j < e.length := by have := (List.getElem?_eq_some_iff.mp h).1; simpa using this
    rw [List.getElem?_set_self hl] at h
    cases h
  · rw [List.getElem?_set_ne (Ne.symm hj)] at h
    exact ⟨hj, h⟩
section
variable {X : Cx} {Tb : TBs} {pos : Pos}
theorem pmg_name (i : Nat) {x : Str} (hN : X.N.Nodup) (hi : X.N[i]? = some x := by rfl) (hx : Loc X.env.scope x := by first | exact Or.inl rfl | exact Or.inr rfl) (hf : X.fn x = true ∨ X.env.scope.names.lookup x = some .local := by first | exact .inl rfl | exact .inr rfl) : PMG X Tb (.Name x pos) (gNm i) [i] :=
  ⟨PG.imp (pg_name hN hi hx hf) fun v σ H Q q => by
    obtain ⟨ρ, F, e, h, pv, e', s, re, rv, hg, k⟩ := q
    cases hg
    refine k _ (re.set i rv) ⟨fun j xs ho => ?_, fun j hj => List.getElem?_set_ne (fun z => hj (by simp [z])), by simp⟩
    obtain ⟨hj, ho⟩ := own_set ho
    exact ⟨ho, List.getElem?_set_ne (Ne.symm hj)⟩⟩
/-- several names -/
abbrev Gms := List PV → En → Option En
def rGs (K : PySem.W.Frag) (Tb : TBs) (g : Gms) (ns : List Nat) : TGs := fun vs σ H Q => ∃ ρ F e h ps e', Sim K Tb ρ F h H ∧ RE K ρ F H e σ ∧ RVs K ρ F ps vs ∧ g ps e = some e' ∧
  ∀ σ', RE K ρ F H e' σ' → Left e e' σ σ' ns → Q σ' H
structure PMGs (X : Cx) (Tb : TBs) (ts : List Expr) (g : Gms) (ns : List Nat) : Prop where
  pg : PGs X ts (rGs X.K Tb g ns)
theorem PGs.imp {e : List Expr} {t t' : TGs} (h : PGs X e t) (i : ∀ v σ H Q, t' v σ H Q → t v σ H Q) : PGs X e t' := ⟨fun pins s σ H v u Q I r q => h.run pins s σ H v u Q I r (i v σ H Q q)⟩
def gsNil : Gms := fun ps e => match ps with
  | [] => some e
  | _ => none
def gsCons (g : Gm) (r : Gms) : Gms := fun ps e => match ps with
  | p :: ps => (g p e).bind fun e1 => r ps e1
  | [] => none
theorem pmgs_nil : PMGs X Tb [] gsNil [] := ⟨PGs.imp pgs_nil fun vs σ H Q q => by
  obtain ⟨ρ, F, e, h, pv, e', s, re, rv, hg, k⟩ := q
  cases pv with
  | nil =>
    cases hg
    cases rv
    exact ⟨rfl, k σ re ⟨fun i xs ho => ⟨ho, rfl⟩, fun _ _ => rfl, rfl⟩⟩
  | cons _ _ => cases hg⟩
theorem pmgs_cons {t : Expr} {ts : List Expr} {g : Gm} {r : Gms} {n1 n2 : List Nat} (h1 : PMG X Tb t g n1) (h2 : PMGs X Tb ts r n2) (hs : (assignEach (t :: ts) X.env).map (·.2) = assign t X.env :: (assignEach ts X.env).map (·.2) := by rfl) : PMGs X Tb (t :: ts) (gsCons g r) (n1 ++ n2) :=
  ⟨PGs.imp (pgs_cons h1.pg h2.pg hs) fun vs σ H Q q => by
    obtain ⟨ρ, F, e, h, pv, e', s, re, rv, hg, k⟩ := q
    cases pv with
    | nil => cases hg
    | cons p ps =>
      cases rv with
      | cons rp rps =>
        obtain ⟨e1, g1, g2⟩ := Option.bind_eq_some_iff.mp (show (g p e).bind (fun e1 => r ps e1) = some e' from hg)
        refine ⟨_, _, rfl, ρ, F, e, h, p, e1, s, re, rp, g1, fun σ1 re1 o1 => ⟨ρ, F, e1, h, ps, e', s, re1, rps, g2, fun σ2 re2 o2 => k σ2 re2 ⟨fun i xs ho => ?_, fun i hi => ?_, o2.2.2.trans o1.2.2⟩⟩⟩
        · obtain ⟨a1, a2⟩ := o2.1 i xs ho
          obtain ⟨b1, b2⟩ := o1.1 i xs a1
          exact ⟨b1, a2.trans b2⟩
        · exact (o2.2.1 i fun z => hi (List.mem_append_right _ z)).trans (o1.2.1 i fun z => hi (List.mem_append_left _ z))⟩
def gTp (n : Nat) (r : Gms) : Gm := fun v e => match v with
  | .tup xs => if xs.length = n then r xs e else none
  | _ => none
theorem pmg_tup {ts : List Expr} {k n : Nat} {r : Gms} {ns : List Nat} (hc : X.calm = true) (h : PMGs X Tb ts r ns) (hn : (assignEach ts X.env).length = n := by rfl) (hst : (assignEach ts X.env).findIdx? (·.1) = none := by rfl) : PMG X Tb (.Tuple ts k pos) (gTp n r) ns :=
  ⟨PG.imp (pg_tup hc h.pg hn hst) fun v σ H Q q => by
    obtain ⟨ρ, F, e, h, pv, e', s, re, rv, hg, k⟩ := q
    cases rv with
    | @tup a vs xs hs rr =>
      simp only [gTp] at hg
      split at hg
      · rename_i c
        exact ⟨a, vs, rfl, sqT_le s.le hs, by rw [← rr.len]; exact c, ρ, F, e, h, xs, e', s, re, rr, hg, k⟩
      · cases hg
    | _ => cases hg⟩
end
def sAsg (g : Gm) (m : M PV) : Sm := bindS m fun v e h => match g v e with
  | some e1 => .nx e1 h
  | none => .stuck
section
variable {X : Cx} {Tb : TBs} {W : WX} {B : Bs} {a tg : Expr} {ma : M PV} {g : Gm} {ns : List Nat} {pos : Pos}
/-- what a target leaves, with the entry -/
theorem rG_of {ρ : List Addr} {F H : Hp} {e e1 : En} {h : Hm} {σ : L2.St} {v : PV} {x : V} {Q : L2.St → Hp → Prop} (a : At X.K Tb B ρ F H e h σ) (rv : RV X.K ρ F v x) (hg : g v e = some e1) (k : ∀ σ', At X.K Tb B ρ F H e1 h σ' → Q σ' H) : rG X.K Tb g ns x σ H Q :=
  ⟨ρ, F, e, h, v, e1, a.s, a.rb.re, rv, hg, fun σ' re' ho => k σ' ⟨a.ex, a.s, ⟨re', fun i xs p q1 q2 => by
    obtain ⟨b1, b2⟩ := ho.1 i xs q1
    exact a.rb.yg i xs p b1 (by rw [← b2]; exact q2)⟩, a.u⟩⟩
theorem pms_asg (hg : PMG X Tb tg g ns) (ha : PM X Tb W a ma) (hs : swapsWithSole [tg] a pos.line X.env = pure false := by rfl) (hw : swappedStores [tg] a X.env = pure none := by rfl)
    (h1 : (assignEach [tg] X.env).map (·.2) = [assign tg X.env] := by rfl) : PMS X Tb W (.Assign [tg] a pos) (sAsg g ma) := ⟨fun B => PS.imp (ps_asg ha.pe hg.pg hs hw h1) fun D σ H q => by
  obtain ⟨ρ, F, e, h, s, re, p⟩ := rdS_bind (R := RV X.K) q
  refine ⟨ρ, F, e, h, s, re, post_imp p fun x H1 ⟨ρ1, F1, e1, h1, v, a1, rv, q1⟩ => ?_⟩
  split at q1
  · rename_i e2 hg2
    exact rG_of a1 rv hg2 fun σ' a2 => q1 ρ1 F1 H1 σ' a2
  · exact q1.elim⟩
end
end PM
end
section
set_option Elab.async false
set_option linter.all false
set_option maxRecDepth 100000
set_option autoImplicit false
set_option maxHeartbeats 4000000
namespace PM
open PySem PySem.Spec PyProof.Rows L2

/-! ### what is walked -/
inductive Src where
  | row (xs : List PV) | hp (i : Nat)
def Src.get : Src → Hm → Nat → Option (Option PV)
  | .row xs, _, k => some xs[k]?
  | .hp i, h, k => match h[i]? with
    | some (.lst xs) => some xs[k]?
    | _ => none
def Src.len : Src → Hm → Nat
  | .row xs, _ => xs.length
  | .hp i, h => match h[i]? with
    | some (.lst xs) => xs.length
    | _ => 0
structure Wk (K : PySem.W.Frag) (Tb : TBs) (ρ0 : List Addr) (F0 : Hp) (src : Src) (J : It) : Prop where
  go : ∀ k d ρ F h H, Up ρ0 F0 ρ F → Sim K Tb ρ F h H → src.get h k = some (some d) → J.go k H ∧ ∀ x H', J.yld k H x H' → ∃ F', Ext ρ F H ρ F' H' ∧ Sim K Tb ρ F' h H' ∧ RV K ρ F' d x
  stop : ∀ k ρ F h H, Up ρ0 F0 ρ F → Sim K Tb ρ F h H → src.get h k = some none → J.stop k H
section
variable {K : PySem.W.Frag} {Tb : TBs} {ρ ρ' ρ0 : List Addr} {F F' F0 H H' : Hp}
theorem Up.refl : Up ρ F ρ F := ⟨fun _ _ e => e, fun _ _ e => e⟩
theorem Ext.toUp (x : Ext ρ F H ρ' F' H') : Up ρ F ρ' F' := ⟨x.ix, x.up⟩
theorem RV.to (u : Up ρ0 F0 ρ F) {d : PV} {v : V} (r : RV K ρ0 F0 d v) : RV K ρ F d v := RV.up u.1 u.2 d v r
theorem RVs.to (u : Up ρ0 F0 ρ F) {d : List PV} {v : List V} (r : RVs K ρ0 F0 d v) : RVs K ρ F d v := RVs.up u.1 u.2 d v r
theorem Wk.to {src : Src} {J : It} (u : Up ρ0 F0 ρ F) (w : Wk K Tb ρ0 F0 src J) : Wk K Tb ρ F src J := by
  have t : ∀ {ρ1 F1}, Up ρ F ρ1 F1 → Up ρ0 F0 ρ1 F1 := fun v => ⟨fun i a e => v.1 i a (u.1 i a e), fun p o e => v.2 p o (u.2 p o e)⟩
  exact ⟨fun k d ρ1 F1 h H v => w.go k d ρ1 F1 h H (t v), fun k ρ1 F1 h H v => w.stop k ρ1 F1 h H (t v)⟩
theorem RVs.none_of : ∀ {ds : List PV} {vs : List V} {i : Nat}, RVs K ρ F ds vs → ds[i]? = none → vs.length ≤ i := fun {ds vs i} r e => by
  have := List.getElem?_eq_none_iff.mp e
  rw [← r.len]; exact this
theorem wk_list {a : Addr} {ds : List PV} {vs : List V} (q : SqL K F0 a vs) (r : RVs K ρ0 F0 ds vs) : Wk K Tb ρ0 F0 (.row ds) (Itl K a) where
  go := fun k d ρ F h H u s e => by
    have q1 : SqL K H a vs := sqL_le s.le (sqL_up u.2 q)
    obtain ⟨v, e1, r1⟩ := (r.to u).get (Option.some.inj e)
    refine ⟨⟨vs, v, q1, e1⟩, fun x H' ⟨eh, y⟩ => ?_⟩
    subst eh
    have := y vs q1
    rw [e1] at this; cases this
    exact ⟨F, Ext.refl, s, r1⟩
  stop := fun k ρ F h H u s e => ⟨vs, sqL_le s.le (sqL_up u.2 q), r.none_of (Option.some.inj e)⟩
theorem wk_tup {a : Addr} {ds : List PV} {vs : List V} (q : SqT K F0 a vs) (r : RVs K ρ0 F0 ds vs) : Wk K Tb ρ0 F0 (.row ds) (Itt K a) where
  go := fun k d ρ F h H u s e => by
    have q1 : SqT K H a vs := sqT_le s.le (sqT_up u.2 q)
    obtain ⟨v, e1, r1⟩ := (r.to u).get (Option.some.inj e)
    refine ⟨⟨vs, v, q1, e1⟩, fun x H' ⟨eh, y⟩ => ?_⟩
    subst eh
    have := y vs q1
    rw [e1] at this; cases this
    exact ⟨F, Ext.refl, s, r1⟩
  stop := fun k ρ F h H u s e => ⟨vs, sqT_le s.le (sqT_up u.2 q), r.none_of (Option.some.inj e)⟩
theorem wk_hp {i : Nat} {a : Addr} (hi : ρ0[i]? = some a) : Wk K Tb ρ0 F0 (.hp i) (Itl K a) where
  go := fun k d ρ F h H u s e => by
    simp only [Src.get] at e
    split at e
    · rename_i xs hx
      obtain ⟨p, O, e1, e2, r⟩ := s.ob i _ hx
      rw [u.1 i a hi] at e1; cases e1
      cases r with
      | @lst _ vs r =>
        obtain ⟨v, e3, r1⟩ := r.get (Option.some.inj e)
        have q1 : SqL K H a vs := .inl (.inl e2)
        refine ⟨⟨vs, v, q1, e3⟩, fun x H' ⟨eh, y⟩ => ?_⟩
        subst eh
        have := y vs q1
        rw [e3] at this; cases this
        exact ⟨F, Ext.refl, s, r1⟩
    · cases e
  stop := fun k ρ F h H u s e => by
    simp only [Src.get] at e
    split at e
    · rename_i xs hx
      obtain ⟨p, O, e1, e2, r⟩ := s.ob i _ hx
      rw [u.1 i a hi] at e1; cases e1
      cases r with
      | @lst _ vs r => exact ⟨vs, .inl (.inl e2), r.none_of (Option.some.inj e)⟩
    · cases e
def signs (s : Str) : List PV := s.cps.toList.map fun c => .str ⟨#[c]⟩
theorem wk_str {x : Str} : Wk K Tb ρ0 F0 (.row (signs x)) (Its x) where
  go := fun k d ρ F h H u s e => by
    have e1 : (signs x)[k]? = some d := Option.some.inj e
    unfold signs at e1
    rw [List.getElem?_map] at e1
    cases hc : x.cps.toList[k]? with
    | none => rw [hc] at e1; cases e1
    | some c =>
      rw [hc] at e1
      cases e1
      have hc' : x.cps[k]? = some c := by simpa using hc
      have hk : k < x.cps.size := by
        rcases Nat.lt_or_ge k x.cps.size with z | z
        · exact z
        · rw [Array.getElem?_eq_none z] at hc'; cases hc'
      refine ⟨hk, fun y H' ⟨eh, c', ec, ey⟩ => ?_⟩
      subst eh
      rw [hc'] at ec; cases ec
      subst ey
      exact ⟨F, Ext.refl, s, .str _⟩
  stop := fun k ρ F h H u s e => by
    have e1 : (signs x)[k]? = none := Option.some.inj e
    have := List.getElem?_eq_none_iff.mp e1
    simp [signs] at this
    exact this
def rngRow (lo c : Int) (n : Nat) : List PV := (List.range n).map fun (k : Nat) => .int (lo + (k : Int) * c)
theorem wk_rngC {lo c : Int} {n : Nat} : Wk K Tb ρ0 F0 (.row (rngRow lo c n)) (Itc lo c n) where
  go := fun k d ρ F h H u s e => by
    have e1 : (rngRow lo c n)[k]? = some d := Option.some.inj e
    have hk : k < n := by
      have := (List.getElem?_eq_some_iff.mp e1).1
      simpa [rngRow] using this
    simp [rngRow, hk] at e1
    refine ⟨hk, fun y H' ⟨eh, ey⟩ => ?_⟩
    subst eh
    subst ey
    subst e1
    exact ⟨F, Ext.refl, s, .int _⟩
  stop := fun k ρ F h H u s e => by
    have e1 : (rngRow lo c n)[k]? = none := Option.some.inj e
    have := List.getElem?_eq_none_iff.mp e1
    simp [rngRow] at this
    exact this
theorem wk_rng {lo : Int} {n : Nat} : Wk K Tb ρ0 F0 (.row (rngRow lo 1 n)) (Itr lo n) where
  go := fun k d ρ F h H u s e => by
    have e1 : (rngRow lo 1 n)[k]? = some d := Option.some.inj e
    have hk : k < n := by
      have := (List.getElem?_eq_some_iff.mp e1).1
      simpa [rngRow] using this
    simp [rngRow, hk] at e1
    refine ⟨hk, fun y H' ⟨eh, ey⟩ => ?_⟩
    subst eh
    subst ey
    subst e1
    exact ⟨F, Ext.refl, s, .int _⟩
  stop := fun k ρ F h H u s e => by
    have e1 : (rngRow lo 1 n)[k]? = none := Option.some.inj e
    have := List.getElem?_eq_none_iff.mp e1
    simp [rngRow] at this
    exact this
end
abbrev rI (K : PySem.W.Frag) (Tb : TBs) (W : WX) (m : M Src) : TI := fun σ H R => rd K Tb W (Wk K Tb) m σ H R
structure PMI (X : Cx) (Tb : TBs) (W : WX) (tg e : Expr) (m : M Src) : Prop where
  pi : PI X tg e (rI X.K Tb W m)
theorem PI.imp {X : Cx} {tg e : Expr} {t t' : TI} (h : PI X tg e t) (i : ∀ σ H Q, t' σ H Q → t σ H Q) : PI X tg e t' := ⟨fun pins s σ H Q I q => h.run pins s σ H Q I (i σ H Q q)⟩
/-- any value that can be walked -/
def iAny (K : PySem.W.Frag) (te : TE) : TI := fun σ H R => te σ H fun v H1 => (∃ a, v = .ref a ∧ (∃ xs, SqL K H1 a xs) ∧ R (Itl K a) H1) ∨ (∃ a, v = .ref a ∧ (∃ xs, SqT K H1 a xs) ∧ R (Itt K a) H1) ∨ ∃ x, v = .str x ∧ R (Its x) H1
theorem pi_any {X : Cx} {tg l : Expr} {tl : TE} (hl : PE X l tl) : PI X tg l (iAny X.K tl) := by
  refine ⟨fun pins s σ H R I h => ?_⟩
  refine thn (hl.run pins s σ H _ I h) fun v s1 ⟨x, H1, I1, r1, q1⟩ => ?_
  rcases q1 with ⟨a, e, ⟨xs, hq⟩, q⟩ | ⟨a, e, ⟨xs, hq⟩, q⟩ | ⟨x', e, q⟩
  · subst e
    cases r1
    obtain ⟨its, rv, p, hz⟩ := I1.list hq
    exact wpAny_pyIter_list p.isList (pi_one (tk := s1.toks) I1 _ (turn_list a _) ⟨_, Heap.get?_push_size _ rfl, rfl, rfl⟩ q)
  · subst e
    cases r1
    obtain ⟨its, rv, p, hz⟩ := I1.tuple hq
    exact wpAny_pyIter_tuple (show s1.heap.IsTuple a its.toArray from p) (pi_one (tk := s1.toks) I1 _ (turn_tuple a _) ⟨_, Heap.get?_push_size _ rfl, rfl, rfl⟩ q)
  · subst e
    obtain ⟨t, rfl⟩ := r1
    cases ha : x'.cps.all (· < 128)
    · exact wpAny_pyIter_wide ha (pi_one (tk := s1.toks) I1 _ (turn_str _ x' t "str_iterator" (.inr rfl)) ⟨_, Heap.get?_push_size _ rfl, rfl, rfl⟩ q)
    · exact wpAny_pyIter_ascii ha (pi_one (tk := s1.toks) I1 _ (turn_str _ x' t "str_ascii_iterator" (.inl rfl)) ⟨_, Heap.get?_push_size _ rfl, rfl, rfl⟩ q)
def srcOf (h : Hm) : PV → Option Src
  | .tup xs => some (.row xs)
  | .lst xs => some (.row xs)
  | .str s => some (.row (signs s))
  | .ref i => match h[i]? with
    | some (.lst _) => some (.hp i)
    | _ => none
  | _ => none
def mSrc (m : M PV) : M Src := fun e h => (m e h).bind fun v h1 => match srcOf h1 v with
  | some s => .ok s h1
  | none => .stuck
section
variable {X : Cx} {Tb : TBs} {W : WX} {B : Bs} {a tg : Expr} {ma : M PV} {ms : M (List PV)} {g : Gm} {pos : Pos}
theorem srcOf_at {K : PySem.W.Frag} {ρ : List Addr} {F H : Hp} {h : Hm} {v : PV} {x : V} {src : Src} (s : Sim K Tb ρ F h H) (r : RV K ρ F v x) (e : srcOf h v = some src) :
    (∃ a, x = .ref a ∧ (∃ xs, SqL K H a xs) ∧ Wk K Tb ρ F src (Itl K a)) ∨ (∃ a, x = .ref a ∧ (∃ xs, SqT K H a xs) ∧ Wk K Tb ρ F src (Itt K a)) ∨ ∃ y, x = .str y ∧ Wk K Tb ρ F src (Its y) := by
  cases r with
  | tup q r => simp only [srcOf] at e; cases e; exact .inr (.inl ⟨_, rfl, ⟨_, sqT_le s.le q⟩, wk_tup q r⟩)
  | lst q r => simp only [srcOf] at e; cases e; exact .inl ⟨_, rfl, ⟨_, sqL_le s.le q⟩, wk_list q r⟩
  | str y => simp only [srcOf] at e; cases e; exact .inr (.inr ⟨_, rfl, wk_str⟩)
  | @ref i a hi =>
    simp only [srcOf] at e
    split at e
    · rename_i xs hx
      cases e
      obtain ⟨p, O, e1, e2, r⟩ := s.ob i _ hx
      rw [hi] at e1; cases e1
      cases r with
      | @lst _ vs r => exact .inl ⟨_, rfl, ⟨vs, .inl (.inl e2)⟩, wk_hp hi⟩
    · cases e
  | _ => simp only [srcOf] at e; cases e
theorem pmi_val (ha : PM X Tb W a ma) : PMI X Tb W tg a (mSrc ma) := ⟨PI.imp (pi_any ha.pe) fun σ H Q q => by
  obtain ⟨ρ, F, e, h, s, re, p⟩ := rd_bind (R := RV X.K) (S := Wk X.K Tb) (k := fun v _ h1 => match srcOf h1 v with
    | some s => Res.ok s h1
    | none => .stuck) q
  refine ⟨ρ, F, e, h, s, re, post_imp p fun x H1 ⟨ρ1, F1, e1, h1, v, s1, re1, rx, p1⟩ => ?_⟩
  cases hs : srcOf h1 v with
  | none => rw [hs] at p1; exact p1.elim
  | some src =>
    rw [hs] at p1
    rcases srcOf_at s1 rx hs with ⟨a, ex, hq, w⟩ | ⟨a, ex, hq, w⟩ | ⟨y, ex, w⟩
    · exact .inl ⟨a, ex, hq, post_ret p1 s1 w⟩
    · exact .inr (.inl ⟨a, ex, hq, post_ret p1 s1 w⟩)
    · exact .inr (.inr ⟨y, ex, post_ret p1 s1 w⟩)⟩
def fRng (xs : List PV) (h1 : Hm) : Res Src := match xs with
  | [.int j] => if -(2 ^ 62) ≤ j ∧ j < 2 ^ 62 then .ok (.row (rngRow 0 1 j.toNat)) h1 else .stuck
  | [.int i, .int j] => if -(2 ^ 62) ≤ i ∧ i < 2 ^ 62 ∧ -(2 ^ 62) ≤ j ∧ j < 2 ^ 62 then .ok (.row (rngRow i 1 (j - i).toNat)) h1 else .stuck
  | [.int i, .int j, .int c] => if -(2 ^ 62) ≤ i ∧ i < 2 ^ 62 ∧ -(2 ^ 62) ≤ j ∧ j < 2 ^ 62 ∧ c = -1 then .ok (.row (rngRow i (-1) (i - j).toNat)) h1 else .stuck
  | _ => .stuck
def mRng (ms : M (List PV)) : M Src := fun e h => (ms e h).bind fun xs h1 => fRng xs h1
theorem rI_bind {K : PySem.W.Frag} {ms : M (List PV)} {f : List PV → Hm → Res Src} {σ : L2.St} {H : Hp} {Q : It → Hp → Prop} {r : List V → Hp → (It → Hp → Prop) → Prop}
    (hf : ∀ ρ F h H xs vs Q, Sim K Tb ρ F h H → RVs K ρ F xs vs → post K Tb W (Wk K Tb) ρ F H σ (f xs h) Q → r vs H Q) (q : rI K Tb W (fun e h => (ms e h).bind fun xs h1 => f xs h1) σ H Q) : rA K Tb W ms σ H fun vs H1 => r vs H1 Q := by
  obtain ⟨ρ, F, e, h, s, re, p⟩ := rd_bind (R := RVs K) (S := Wk K Tb) (k := fun xs => fun _ h1 => f xs h1) q
  exact ⟨ρ, F, e, h, s, re, post_imp p fun vs H1 ⟨ρ1, F1, e1, h1, xs, s1, re1, rx, p1⟩ => hf ρ1 F1 h1 H1 xs vs Q s1 rx p1⟩
/-- the number of arguments told, what the row must be -/
def onlyN (n : Nat) (ms : M (List PV)) : M (List PV) := fun e h => (ms e h).bind fun xs h1 => if xs.length = n then .ok xs h1 else .stuck
theorem fRng_len {xs : List PV} {h : Hm} {K : PySem.W.Frag} {ρ : List Addr} {F H : Hp} {σ : L2.St} {Q : It → Hp → Prop} (p : post K Tb W (Wk K Tb) ρ F H σ (fRng xs h) Q) : ∃ src, fRng xs h = .ok src h := by
  unfold fRng at p ⊢
  split at p
  all_goals first
    | (split at p
       · rename_i c
         rw [if_pos c]; exact ⟨_, rfl⟩
       · exact p.elim)
    | exact p.elim
theorem pmi_rng1 {p : Pos} (hg : Gl X "range") (hm : X.mg "range" = none) (ha : PMA X Tb W [a] ms) (hl : ∀ e h xs h1, ms e h = .ok xs h1 → xs.length = 1) (hs : starEach [a] X.env = [(false, eval a X.env)] := by rfl) : PMI X Tb W tg (.Call (.Name "range" p) [a] [] pos) (mRng ms) := ⟨PI.imp (pi_range1 hg hm ha.pa hs) fun σ H Q q => by
  obtain ⟨ρ, F, e, h, s, re, p⟩ := q
  refine ⟨ρ, F, e, h, s, re, ?_⟩
  have hl := hl e h
  unfold mRng at p
  cases hr : ms e h with
  | stuck => rw [hr] at p; exact p.elim
  | exc c h1 => rw [hr] at p; exact p
  | ok xs h1 =>
    rw [hr] at p
    intro ρ1 F1 H1 vs ex s1 rx
    have p1 : post X.K Tb W (Wk X.K Tb) ρ1 F1 H1 σ (fRng xs h1) Q := post_ext ex p
    have hlen := hl xs h1 hr
    unfold fRng at p1
    split at p1
    · rename_i j
      split at p1
      · rename_i c
        cases rx with
        | cons r rr =>
          cases rr
          cases r
          exact ⟨j, rfl, c.1, c.2, post_ret p1 s1 wk_rng⟩
      · exact p1.elim
    · simp at hlen
    · simp at hlen
    · exact p1.elim⟩
theorem pmi_rng2 {b : Expr} {p : Pos} (hg : Gl X "range") (hm : X.mg "range" = none) (ha : PMA X Tb W [a, b] ms) (hl : ∀ e h xs h1, ms e h = .ok xs h1 → xs.length = 2) (hs : starEach [a, b] X.env = [(false, eval a X.env), (false, eval b X.env)] := by rfl) (hs2 : starEach [b] X.env = [(false, eval b X.env)] := by rfl) :
    PMI X Tb W tg (.Call (.Name "range" p) [a, b] [] pos) (mRng ms) := ⟨PI.imp (pi_range2 hg hm ha.pa hs hs2) fun σ H Q q => by
  obtain ⟨ρ, F, e, h, s, re, p⟩ := q
  refine ⟨ρ, F, e, h, s, re, ?_⟩
  have hl := hl e h
  unfold mRng at p
  cases hr : ms e h with
  | stuck => rw [hr] at p; exact p.elim
  | exc c h1 => rw [hr] at p; exact p
  | ok xs h1 =>
    rw [hr] at p
    intro ρ1 F1 H1 vs ex s1 rx
    have p1 : post X.K Tb W (Wk X.K Tb) ρ1 F1 H1 σ (fRng xs h1) Q := post_ext ex p
    have hlen := hl xs h1 hr
    unfold fRng at p1
    split at p1
    · simp at hlen
    · rename_i i j
      split at p1
      · rename_i c
        cases rx with
        | cons r rr =>
          cases rr with
          | cons r2 rr =>
            cases rr
            cases r
            cases r2
            exact ⟨i, j, rfl, ⟨c.1, c.2.1, c.2.2.1, c.2.2.2⟩, post_ret p1 s1 wk_rng⟩
      · exact p1.elim
    · simp at hlen
    · exact p1.elim⟩
theorem pmi_rng3 {b c : Expr} {p : Pos} (hg : Gl X "range") (hm : X.mg "range" = none) (ha : PMA X Tb W [a, b, c] ms) (hl : ∀ e h xs h1, ms e h = .ok xs h1 → xs.length = 3)
    (hs : starEach [a, b, c] X.env = (false, eval a X.env) :: starEach [b, c] X.env := by rfl) (hpl : (backTo pos (starEach [b, c] X.env)).any (·.1) = false := by rfl) :
    PMI X Tb W tg (.Call (.Name "range" p) [a, b, c] [] pos) (mRng ms) := ⟨PI.imp (pi_range3 hg hm ha.pa hs hpl) fun σ H Q q => by
  obtain ⟨ρ, F, e, h, s, re, p⟩ := q
  refine ⟨ρ, F, e, h, s, re, ?_⟩
  have hl := hl e h
  unfold mRng at p
  cases hr : ms e h with
  | stuck => rw [hr] at p; exact p.elim
  | exc c h1 => rw [hr] at p; exact p
  | ok xs h1 =>
    rw [hr] at p
    intro ρ1 F1 H1 vs ex s1 rx
    have p1 : post X.K Tb W (Wk X.K Tb) ρ1 F1 H1 σ (fRng xs h1) Q := post_ext ex p
    have hlen := hl xs h1 hr
    unfold fRng at p1
    split at p1
    · simp at hlen
    · simp at hlen
    · rename_i i j c
      split at p1
      · rename_i c
        obtain ⟨c1, c2, c3, c4, rfl⟩ := c
        cases rx with
        | cons r rr =>
          cases rr with
          | cons r2 rr =>
            cases rr with
            | cons r3 rr =>
              cases rr
              cases r
              cases r2
              cases r3
              exact ⟨i, j, -1, _, rfl, RgC.neg c1 c2 c3 c4, post_ret p1 s1 wk_rngC⟩
      · exact p1.elim
    · exact p1.elim⟩
theorem len1 {a : M PV} : ∀ e h xs h1, mCons a mNil e h = .ok xs h1 → xs.length = 1 := fun e h xs h1 q => by
  unfold mCons mNil at q
  cases hr : a e h with
  | ok x h2 => rw [hr] at q; cases q; rfl
  | _ => rw [hr] at q; cases q
theorem len2 {a b : M PV} : ∀ e h xs h1, mCons a (mCons b mNil) e h = .ok xs h1 → xs.length = 2 := fun e h xs h1 q => by
  unfold mCons at q
  cases hr : a e h with
  | ok x h2 =>
    rw [hr] at q
    cases hr2 : b e h2 with
    | ok y h3 => simp only [Res.bind, hr2, mNil] at q; cases q; rfl
    | _ => simp only [Res.bind, hr2, mNil] at q; cases q
  | _ => rw [hr] at q; cases q
theorem len3 {a b c : M PV} : ∀ e h xs h1, mCons a (mCons b (mCons c mNil)) e h = .ok xs h1 → xs.length = 3 := fun e h xs h1 q => by
  unfold mCons at q
  cases hr : a e h with
  | ok x h2 =>
    rw [hr] at q
    cases hr2 : b e h2 with
    | ok y h3 =>
      cases hr3 : c e h3 with
      | ok z h4 => simp only [Res.bind, hr2, hr3, mNil] at q; cases q; rfl
      | _ => simp only [Res.bind, hr2, hr3, mNil] at q; cases q
    | _ => simp only [Res.bind, hr2, mNil] at q; cases q
  | _ => rw [hr] at q; cases q
end
end PM
end
section
set_option Elab.async false
set_option linter.all false
set_option maxRecDepth 100000
set_option autoImplicit false
set_option maxHeartbeats 4000000
namespace PM
open PySem PySem.Spec PyProof.Rows L2

/-! ### enumerate over a tuple -/
def IteT (K : PySem.W.Frag) (a : Addr) : It :=
  ⟨fun i H => ∃ (xs : List V) (x : V), SqT K H a xs ∧ xs[i]? = some x, fun i H v H' => ∃ T x, v = .ref T ∧ H T = none ∧ H' = upd H T (.tup [.int (i : Nat), x]) ∧ ∀ xs, SqT K H a xs → xs[i]? = some x, fun i H => ∃ xs : List V, SqT K H a xs ∧ xs.length ≤ i⟩
theorem turn_enumT {P : Program} {w : World} {K : PySem.W.Frag} {elts : List Expr} {kk : Nat} {tpos : Pos} (a e it : Addr) (hai : a ≠ it) :
    Turn P w K (.Tuple elts kk tpos) (IteT K a) [e, it] e (fun i h => (∃ old, IsEnum h e it ((0 : Int) + ((i : Nat) : Int)) old) ∧ h.IsTupleIter it a i ∧ e ≠ it ∧ a ≠ e) where
  mem := by simp
  obj := fun i h st b hb => by
    obtain ⟨⟨old, he⟩, ⟨o, ho, hc, hd⟩, _⟩ := st
    have e' : b = e ∨ b = it := by simpa using hb
    rcases e' with z | z
    · rw [z]; exact ⟨_, he, fun v q => nomatch q⟩
    · rw [z]; exact ⟨o, ho, fun v q => by rw [hd] at q; cases q⟩
  keep := fun i h h' st k => let ⟨⟨old, he⟩, hi, hne⟩ := st; ⟨⟨old, k e (by simp) _ he⟩, hi.at fun o q => k it (by simp) o q, hne⟩
  item := by
    intro X hP hw hK hc i pins s σ H E I hf st hg
    subst hP hw hK
    obtain ⟨⟨old, he⟩, hit, hne, hae⟩ := st
    obtain ⟨xs, x, hq, hx⟩ := hg
    obtain ⟨its, rv, p, hz⟩ := I.tuple hq
    obtain ⟨u, hu, ru⟩ := rv.get hx
    have hel : e < s.heap.objs.size := Heap.lt_size he
    have hil : it < s.heap.objs.size := by obtain ⟨_, q, _⟩ := hit; exact Heap.lt_size q
    have hlt : i < its.toArray.size := by
      have := rv.length
      have := (List.getElem?_eq_some_iff.mp hx).1
      simp; omega
    refine wpAny_pyNext_enum_itemC (Draws.tuple (A := X.A.in1) (I.ok.hd hc) it a hai its.toArray) he ⟨hit, p⟩ hlt hne (by simp [hne, Ne.symm hae]) fun u' h' tk hu' ho hst' hT hsz hk => ?_
    have : u' = u := by rw [List.getElem?_toArray] at hu'; rw [hu] at hu'; exact (Option.some.inj hu').symm
    subst this
    refine ⟨_, rfl, wpAny_letOwnedTupleGo_enum (s := { s with heap := h', toks := tk + 1 }) ho fun h'' he' sb => ?_⟩
    have hT2 : h''.get? s.heap.objs.size = some { cls := .type "tuple", data := .seq #[.int ((0 : Int) + ((i : Nat) : Int)) tk, u'] } := (sb.2 _ (Nat.ne_of_gt hel)).trans hT
    have new : ObjOk X.prog X.w (upd H s.heap.objs.size (.tup [.int (i : Nat), x])) h'' s.heap.objs.size (.tup [.int (i : Nat), x]) :=
      ⟨by show 2 ≤ sizeLine; decide, [.int ((0 : Int) + ((i : Nat) : Int)) tk, u'], .cons ⟨_, by rw [Int.zero_add]⟩ (.cons ru .nil), ⟨_, hT2, rfl, _, rfl⟩⟩
    have I1 : Inv X pins σ (upd H s.heap.objs.size (.tup [.int (i : Nat), x])) { s with heap := h'', toks := tk + 1 } :=
      I.turnedNew (ch := [e, it]) (fun b ob hb q => (sb.2 b (fun z => hb (by simp [z]))).trans (hk b ob (fun z => hb (by simp [z])) (fun z => hb (by simp [z])) q)) hf (Nat.le_refl _) new
    refine ⟨.ref s.heap.objs.size, _, I1, rfl, ⟨_, x, rfl, I.hok.fresh (Nat.le_refl _), rfl, fun ys hy => by rw [I.tuple_inj hy hq]; exact hx⟩, ⟨⟨u', ?_⟩, hst'.1.at fun o q => (sb.2 it (Ne.symm hne)).trans q, hne, hae⟩, fun b hb => ?_⟩
    · have e1 : (0 : Int) + ((i + 1 : Nat) : Int) = (0 : Int) + (i : Int) + 1 := by omega
      rw [e1]; exact he'
    · have hb' : b < s.heap.objs.size := by
        have e' : b = e ∨ b = it := by simpa using hb
        rcases e' with z | z
        · rw [z]; exact hel
        · rw [z]; exact hil
      rw [upd_ne (Nat.ne_of_lt hb')]
      exact (hf b hb).1
  done := by
    intro X hP hw hK hc i pins s σ H E I hf st hg
    subst hP hw hK
    obtain ⟨⟨old, he⟩, hit, hne, hae⟩ := st
    obtain ⟨xs, hq, hx⟩ := hg
    obtain ⟨its, rv, p, hz⟩ := I.tuple hq
    obtain ⟨f0, f1, f2, f3, f4, f5⟩ := hf it (by simp)
    have hl := rv.length
    have D : Draws X.prog X.w X.A.in1 it [it, a] i (fun _ _ => True) (fun k h => k = i ∧ h.IsTupleIter it a i ∧ h.IsTuple a its.toArray) :=
      ⟨fun _ _ st => let ⟨o, ho, _⟩ := st.2.1; ⟨o, ho⟩, fun _ _ _ st hk => ⟨st.1, st.2.1.at fun o e => hk it (by simp) o e, st.2.2.at fun o e => hk a (by simp) o e⟩, fun k s Q E hk st hQ => absurd st.1 (Nat.ne_of_lt hk), fun s Q E st hE => wpAny_nextOf_tuple_end (I.ok.hd hc) st.2.1 st.2.2 (by simp; omega) hE⟩
    exact wpAny_pyNext_enum_endD D he ⟨rfl, hit, p⟩ fun h' eb => ⟨rfl, I.turned (t' := s.toks) (fun b o hb q => eb b o hb q) f0 f1 f3 f4 f5⟩
  self := fun A i s Q E st h => let ⟨⟨_, he⟩, _⟩ := st; wpAny_pyIter_enum he h

set_option maxHeartbeats 1000000 in
theorem enum1_meets {v : Value} {o : Obj} {G : Heap → Prop} (B : Begins v o G) : Meets (Builtin.«enumerate.__new__» ⟨[.type "enumerate", v], []⟩)
    (fun _ R s => G s.heap ∧ R (.ok (.ret (.ref (s.heap.push o).objs.size))) { s with heap := (s.heap.push o).push ⟨.type "enumerate", .none, .fields #[.none, .bool false, .ref s.heap.objs.size, rawInt 0, .none, .none], #[]⟩ }) :=
  .of_wp fun prog w A R s h => by
    obtain ⟨hp, g, d, tk, os⟩ := s
    obtain ⟨hb, h⟩ := h
    have hsub := sub_enumerate
    have go : ∀ {A' : Around} {E Q : Value → Shared → Prop}, Q (.ref hp.objs.size) ⟨hp.push o, g, d, tk, os⟩ → wpAny (model prog w) A' (pyIter v) Q E ⟨hp, g, d, tk, os⟩ := fun q => B.iter prog w _ _ ⟨hp, g, d, tk, os⟩ _ hb q
    wp_walk using go
    refine wpAny_stack_any fun st => wpAny_pure ?_
    split
    · rename_i c _ _ _ _ _
      cases c == Value.type "enumerate" <;> (wp_walk using go; exact ⟨_, rfl, h⟩)
    · wp_walk using go
      exact ⟨_, rfl, h⟩
theorem enum1_call {prog : Program} {w : World} {A : Around} {E : Value → Shared → Prop} {s : Shared} {v : Value} {o : Obj} {G : Heap → Prop} {Q : Value → Shared → Prop} (B : Begins v o G) (h1 : G s.heap)
    (h : ∀ h', IsEnum h' (s.heap.objs.size + 1) s.heap.objs.size 0 .none → h'.get? s.heap.objs.size = some o → (∀ b u, s.heap.get? b = some u → h'.get? b = some u) → Q (.ref (s.heap.objs.size + 1)) { s with heap := h' }) :
    wpAny (model prog w) A (call (.type "enumerate") [v]) Q E s := by
  refine callType_new F.called_enumerate (by decide) (F.typeCall_enumerate_1 _) (F.newCall_enumerate_1 _) (fun obj => F.args_object_init_2 obj _) F.entry_enumerate_new (enum1_meets B) ⟨h1, ?_⟩
  have hz : (s.heap.push o).objs.size = s.heap.objs.size + 1 := Heap.size_push ..
  have he := Heap.get?_push_size (s.heap.push o) (o := ⟨.type "enumerate", .none, .fields #[.none, .bool false, .ref s.heap.objs.size, rawInt 0, .none, .none], #[]⟩) rfl
  show _ ∧ _
  rw [hz] at he ⊢
  exact ⟨⟨_, he, rfl⟩, h _ he (Heap.get?_push_of_some _ (Heap.get?_push_size _ B.free)) fun b u x => Heap.get?_push_of_some _ (Heap.get?_push_of_some _ x)⟩
def iEnumA (K : PySem.W.Frag) (ta : TA) : TI := fun σ H R => ta σ H fun vs H1 => ∃ a, vs = [.ref a] ∧ ((∃ xs, SqL K H1 a xs ∧ R (Ite K a) H1) ∨ (∃ xs, SqT K H1 a xs ∧ R (IteT K a) H1))
theorem pi_enumA {X : Cx} {e : Expr} {ta : TA} {p pos tpos : Pos} {elts : List Expr} {kk : Nat} (hg : Gl X "enumerate") (hm : X.mg "enumerate" = none) (ha : PA X [e] ta) (hs : starEach [e] X.env = [(false, eval e X.env)] := by rfl) :
    PI X (.Tuple elts kk tpos) (.Call (.Name "enumerate" p) [e] [] pos) (iEnumA X.K ta) := by
  refine ⟨fun pins s σ H R I h => ?_⟩
  refine Call_ (ld_blt I hg hm boot_enumerate (PyProof.Rows.callWith_type1 (thn (ha.run pos pins s σ H _ I h) fun us s1 ⟨vs, H1, I1, r1, q1⟩ => ?_) hs rfl))
  obtain ⟨a, ex, q⟩ := q1
  subst ex
  cases r1 with
  | cons r rr =>
    cases rr
    cases r
    have fp : ∀ b ∈ [s1.heap.objs.size + 1, s1.heap.objs.size], FpOk X pins H1 b := fun b hb => by
      have hle : s1.heap.objs.size ≤ b := by
        rcases (show b = s1.heap.objs.size + 1 ∨ b = s1.heap.objs.size by simpa using hb) with z | z <;> omega
      exact I1.fpOk hle (I1.hok.fresh hle)
    rcases q with ⟨xs, hq, q⟩ | ⟨xs, hq, q⟩
    · obtain ⟨its, rv, p', hz⟩ := I1.list hq
      refine enum1_call (begins_list a its.toArray) p'.isList fun h' he hit hk => wpAny_pyIter_enum he ?_
      have I2 : Inv X pins σ H1 { s1 with heap := h' } := I1.kept (t' := s1.toks) hk
      exact ⟨s1.heap.objs.size + 1, [s1.heap.objs.size + 1, s1.heap.objs.size], _, _, H1, rfl, I2, turn_enum a (s1.heap.objs.size + 1) s1.heap.objs.size, ⟨⟨.none, he⟩, ⟨_, hit, rfl, rfl⟩, Nat.succ_ne_self _⟩, fp, q⟩
    · obtain ⟨its, rv, p', hz⟩ := I1.tuple hq
      have hlt : a < s1.heap.objs.size := by obtain ⟨_, z, _⟩ := p'; exact Heap.lt_size z
      refine enum1_call (begins_tuple a its.toArray) p' fun h' he hit hk => wpAny_pyIter_enum he ?_
      have I2 : Inv X pins σ H1 { s1 with heap := h' } := I1.kept (t' := s1.toks) hk
      exact ⟨s1.heap.objs.size + 1, [s1.heap.objs.size + 1, s1.heap.objs.size], _, _, H1, rfl, I2, turn_enumT a (s1.heap.objs.size + 1) s1.heap.objs.size (Nat.ne_of_lt hlt), ⟨⟨.none, he⟩, ⟨_, hit, rfl, rfl⟩, Nat.succ_ne_self _, Nat.ne_of_lt (Nat.lt_succ_of_lt hlt)⟩, fp, q⟩
def pairRow (xs : List PV) : List PV := (List.range xs.length).map fun i => .tup [.int (i : Nat), xs.getD i .non]
section
variable {K : PySem.W.Frag} {Tb : TBs} {W : WX} {ρ0 : List Addr} {F0 : Hp}
theorem pairRow_get {xs : List PV} {k : Nat} : (pairRow xs)[k]? = xs[k]?.map fun d => PV.tup [.int k, d] := by
  unfold pairRow
  by_cases hk : k < xs.length
  · simp [hk]
  · simp [hk]
theorem wk_pair {ds : List PV} {vs : List V} {J : It} (r : RVs K ρ0 F0 ds vs)
    (hgo : ∀ k v ρ F h H, Up ρ0 F0 ρ F → Sim K Tb ρ F h H → vs[k]? = some v → J.go k H ∧ ∀ x H', J.yld k H x H' → ∃ T, x = .ref T ∧ H T = none ∧ H' = upd H T (.tup [.int (k : Nat), v]))
    (hst' : ∀ k ρ F h H, Up ρ0 F0 ρ F → Sim K Tb ρ F h H → vs.length ≤ k → J.stop k H) : Wk K Tb ρ0 F0 (.row (pairRow ds)) J where
  go := fun k d ρ F h H u s e => by
    have e := Option.some.inj e
    rw [pairRow_get] at e
    cases hd : ds[k]? with
    | none => rw [hd] at e; cases e
    | some d0 =>
      rw [hd] at e; cases e
      obtain ⟨v, e1, r1⟩ := (r.to u).get hd
      obtain ⟨g1, g2⟩ := hgo k v ρ F h H u s e1
      refine ⟨g1, fun x H' y => ?_⟩
      obtain ⟨T, ex, hn, eh⟩ := g2 x H' y
      subst ex eh
      obtain ⟨s1, x1⟩ := s.laid (o := .tup [.int (k : Nat), v]) hn (fun ps z => by cases z)
      exact ⟨_, x1, s1, .tup (.inl (.inl upd_same)) (.cons (.int _) (.cons (x1.rv r1) .nil))⟩
  stop := fun k ρ F h H u s e => by
    have e := Option.some.inj e
    rw [pairRow_get] at e
    have : ds[k]? = none := by cases hd : ds[k]? <;> simp_all
    exact hst' k ρ F h H u s (r.none_of this)
theorem wk_enumL {a : Addr} {ds : List PV} {vs : List V} (q : SqL K F0 a vs) (r : RVs K ρ0 F0 ds vs) : Wk K Tb ρ0 F0 (.row (pairRow ds)) (Ite K a) :=
  wk_pair r (fun k v ρ F h H u s e => by
    have q1 : SqL K H a vs := sqL_le s.le (sqL_up u.2 q)
    refine ⟨⟨vs, v, q1, e⟩, fun x H' ⟨T, v', ex, hn, eh, y⟩ => ?_⟩
    have := y vs q1
    rw [e] at this; cases this
    exact ⟨T, ex, hn, eh⟩) fun k ρ F h H u s e => ⟨vs, sqL_le s.le (sqL_up u.2 q), e⟩
theorem wk_enumT {a : Addr} {ds : List PV} {vs : List V} (q : SqT K F0 a vs) (r : RVs K ρ0 F0 ds vs) : Wk K Tb ρ0 F0 (.row (pairRow ds)) (IteT K a) :=
  wk_pair r (fun k v ρ F h H u s e => by
    have q1 : SqT K H a vs := sqT_le s.le (sqT_up u.2 q)
    refine ⟨⟨vs, v, q1, e⟩, fun x H' ⟨T, v', ex, hn, eh, y⟩ => ?_⟩
    have := y vs q1
    rw [e] at this; cases this
    exact ⟨T, ex, hn, eh⟩) fun k ρ F h H u s e => ⟨vs, sqT_le s.le (sqT_up u.2 q), e⟩
def fEnum (v : PV) (h : Hm) : Res Src := match v with
  | .lst xs => .ok (.row (pairRow xs)) h
  | .tup xs => .ok (.row (pairRow xs)) h
  | _ => .stuck
def mEnum (m : M PV) : M Src := fun e h => (m e h).bind fun v h1 => fEnum v h1
theorem pmi_enum {X : Cx} {a : Expr} {ma : M PV} {p pos tpos : Pos} {elts : List Expr} {kk : Nat} (hg : Gl X "enumerate") (hm : X.mg "enumerate" = none) (ha : PM X Tb W a ma) (hs : starEach [a] X.env = [(false, eval a X.env)] := by rfl) :
    PMI X Tb W (.Tuple elts kk tpos) (.Call (.Name "enumerate" p) [a] [] pos) (mEnum ma) := ⟨PI.imp (pi_enumA hg hm (pma_cons ha pma_nil hs).pa hs) fun σ H Q q => by
  obtain ⟨ρ, F, e, h, s, re, p⟩ := q
  refine ⟨ρ, F, e, h, s, re, ?_⟩
  unfold mEnum at p
  unfold mCons mNil
  cases hr : ma e h with
  | stuck => rw [hr] at p; exact p.elim
  | exc c h1 => rw [hr] at p; exact p
  | ok x h1 =>
    rw [hr] at p
    intro ρ1 F1 H1 vs ex s1 rx
    have p1 : post X.K Tb W (Wk X.K Tb) ρ1 F1 H1 σ (fEnum x h1) Q := post_ext ex p
    cases rx with
    | cons r rr =>
      cases rr
      cases r with
      | tup q r => exact ⟨_, rfl, .inr ⟨_, sqT_le s1.le q, post_ret p1 s1 (wk_enumT q r)⟩⟩
      | lst q r => exact ⟨_, rfl, .inl ⟨_, sqL_le s1.le q, post_ret p1 s1 (wk_enumL q r)⟩⟩
      | _ => exact p1.elim⟩
end

/-! ### for -/
def forS (g : Gm) (b : Sm) (src : Src) : Nat → Nat → Sm
  | 0, _, _, _ => .stuck
  | n + 1, k, e, h => match src.get h k with
    | none => .stuck
    | some none => .nx e h
    | some (some d) => match g d e with
      | none => .stuck
      | some e1 => match b e1 h with
        | .nx e2 h2 => forS g b src n (k + 1) e2 h2
        | .ct e2 h2 => forS g b src n (k + 1) e2 h2
        | .bk e2 h2 => .nx e2 h2
        | .rt v h2 => .rt v h2
        | .exc c e2 h2 => .exc c e2 h2
        | .stuck => .stuck
def forL (g : Gm) (b : Sm) : List PV → Sm
  | [], e, h => .nx e h
  | d :: ds, e, h => match g d e with
      | none => .stuck
      | some e1 => match b e1 h with
        | .nx e2 h2 => forL g b ds e2 h2
        | .ct e2 h2 => forL g b ds e2 h2
        | .bk e2 h2 => .nx e2 h2
        | .rt v h2 => .rt v h2
        | .exc c e2 h2 => .exc c e2 h2
        | .stuck => .stuck
theorem forS_drop {g : Gm} {b : Sm} {xs : List PV} : ∀ (n k : Nat) (e : En) (h : Hm), xs.length = k + n → forS g b (.row xs) (n + 1) k e h = forL g b (xs.drop k) e h
  | 0, k, e, h, l => by
    have e1 : xs[k]? = none := List.getElem?_eq_none_iff.mpr (by omega)
    have e2 : xs.drop k = [] := List.drop_eq_nil_of_le (by omega)
    rw [e2]
    simp only [forS, Src.get, e1, forL]
  | n + 1, k, e, h, l => by
    have hk : k < xs.length := by omega
    have e1 : xs[k]? = some xs[k] := List.getElem?_eq_getElem hk
    rw [List.drop_eq_getElem_cons hk]
    show (match (Src.row xs).get h k with
      | none => Fl.stuck
      | some none => .nx e h
      | some (some d) => match g d e with
        | none => .stuck
        | some e1 => match b e1 h with
          | .nx e2 h2 => forS g b (.row xs) (n + 1) (k + 1) e2 h2
          | .ct e2 h2 => forS g b (.row xs) (n + 1) (k + 1) e2 h2
          | .bk e2 h2 => .nx e2 h2
          | .rt v h2 => .rt v h2
          | .exc c e2 h2 => .exc c e2 h2
          | .stuck => .stuck) = _
    simp only [Src.get, e1, forL]
    cases g xs[k] e with
    | none => rfl
    | some e1 =>
      dsimp only
      cases b e1 h with
      | nx e2 h2 => exact forS_drop n (k + 1) e2 h2 (by omega)
      | ct e2 h2 => exact forS_drop n (k + 1) e2 h2 (by omega)
      | _ => rfl
def sFor (m : M Src) (g : Gm) (b : Sm) : Sm := bindS m fun src e h => match src with
  | .row xs => forL g b xs e h
  | .hp i => forS g b (.hp i) ((Src.hp i).len h + 1) 0 e h
theorem sFor_eq {m : M Src} {g : Gm} {b : Sm} {e : En} {h : Hm} : sFor m g b e h = bindS m (fun src e h => forS g b src (src.len h + 1) 0 e h) e h := by
  unfold sFor bindS
  cases m e h with
  | ok src h1 =>
    cases src with
    | row xs => exact (forS_drop xs.length 0 e h1 (by simp)).symm
    | hp i => rfl
  | _ => rfl
section
variable {X : Cx} {Tb : TBs} {W : WX} {B : Bs} {tg it c : Expr} {body : List Stmt} {g : Gm} {ns : List Nat} {sb : Sm} {mi : M Src} {mt : M Bool} {pos : Pos}
/-- the same entry, seen from a later place -/
def Bs.to (B : Bs) (ρ : List Addr) (F : Hp) : Bs := { B with ρu := ρ, Fu := F }
theorem At.back {K : PySem.W.Frag} {ρ0 ρ : List Addr} {F0 F H : Hp} {e : En} {h : Hm} {σ : L2.St} (u : Up B.ρu B.Fu ρ0 F0) (a : At K Tb (B.to ρ0 F0) ρ F H e h σ) : At K Tb B ρ F H e h σ := ⟨a.ex, a.s, ⟨a.rb.re, a.rb.yg⟩, ⟨fun i p q => a.u.1 i p (u.1 i p q), fun p o q => a.u.2 p o (u.2 p o q)⟩⟩
theorem At.here {K : PySem.W.Frag} {ρ : List Addr} {F H : Hp} {e : En} {h : Hm} {σ : L2.St} (a : At K Tb B ρ F H e h σ) : At K Tb (B.to ρ F) ρ F H e h σ := ⟨a.ex, a.s, ⟨a.rb.re, a.rb.yg⟩, ⟨fun i p q => q, fun p o q => q⟩⟩
/-- a body's own end, in a loop -/
theorem loop_end {K : PySem.W.Frag} {ρ0 : List Addr} {F0 : Hp} {D : Ends} {f : Fl} {n : Sm} {N : L2.St → Hp → Prop} (u : Up B.ρu B.Fu ρ0 F0)
    (p : postS K Tb W B (match f with
      | .nx e2 h2 => n e2 h2
      | .ct e2 h2 => n e2 h2
      | .bk e2 h2 => .nx e2 h2
      | .rt v h2 => .rt v h2
      | .exc c e2 h2 => .exc c e2 h2
      | .stuck => .stuck) D)
    (hN : ∀ e2 h2, postS K Tb W B (n e2 h2) D → ∀ ρ F H σ, At K Tb (B.to ρ0 F0) ρ F H e2 h2 σ → N σ H) : postS K Tb W (B.to ρ0 F0) f { D with nx := N, ct := N, bk := D.nx } := by
  cases f with
  | nx e2 h2 => exact hN e2 h2 p
  | ct e2 h2 => exact hN e2 h2 p
  | bk e2 h2 => exact fun ρ F H σ a => p ρ F H σ (a.back u)
  | rt v h2 => exact fun ρ F H x ex s r => p ρ F H x ex s r
  | exc c e2 h2 => exact fun ρ F H σ a => p ρ F H σ (a.back u)
  | stuck => exact p
theorem pms_for (hp : PassesOwn (model X.prog X.w) X.A X.env X.xe) (hc : X.calm = true) (hi : PMI X Tb W tg it mi) (hg : PMG X Tb tg g ns) (hb : PMB X Tb W body sb) (hs : ∀ x, foldedSetIterable it X.env x = pure x := by intro _; rfl) :
    PMS X Tb W (.For tg it body [] pos) (sFor mi g sb) := by
  refine ⟨fun B => ⟨fun pins s σ H D I q => ?_⟩⟩
  have q2 : rdS X.K Tb W B (bindS mi fun src e h => forS g sb src (src.len h + 1) 0 e h) D σ H := by
    obtain ⟨ρ, F, e, h, a, q⟩ := q
    rw [sFor_eq] at q
    exact ⟨ρ, F, e, h, a, q⟩
  refine (PS.imp (t' := fun D' σ' H' => rdS X.K Tb W B (bindS mi fun src e h => forS g sb src (src.len h + 1) 0 e h) D' σ' H') (ps_for (tb := fun D' σ' H' => ∃ ρ0 F0, Up B.ρu B.Fu ρ0 F0 ∧ rdS X.K Tb W (B.to ρ0 F0) sb D' σ' H') hp hc hi.pi hg.pg ⟨fun pins s σ H D I ⟨ρ0, F0, u, q⟩ => (hb.pb (B.to ρ0 F0)).run pins s σ H D I q⟩ hs) fun D σ H q => ?_).run pins s σ H D I q2
  obtain ⟨ρ, F, e, h, s, re, p⟩ := rdS_bind (R := Wk X.K Tb) q
  refine ⟨ρ, F, e, h, s, re, post_imp p fun J H1 ⟨ρ1, F1, e1, h1, src, a1, wk, q1⟩ => ?_⟩
  refine ⟨fun i m σ H => ∃ ρ F e h, At X.K Tb B ρ F H e h σ ∧ Wk X.K Tb ρ F src J ∧ postS X.K Tb W B (forS g sb src m i e h) D, ⟨src.len h1 + 1, ρ1, F1, e1, h1, a1, wk, q1⟩, ?_⟩
  rintro i m σ H ⟨ρ, F, e, h, a, wk, p⟩
  cases m with
  | zero => exact p.elim
  | succ m =>
    unfold forS at p
    cases hd : src.get h i with
    | none => rw [hd] at p; exact p.elim
    | some d =>
      cases d with
      | none =>
        rw [hd] at p
        exact .inl ⟨wk.stop i ρ F h H Up.refl a.s hd, p ρ F H σ a⟩
      | some d =>
        rw [hd] at p
        obtain ⟨g1, g2⟩ := wk.go i d ρ F h H Up.refl a.s hd
        refine .inr ⟨g1, fun σ H => ∃ ρ F e h, At X.K Tb B ρ F H e h σ ∧ Wk X.K Tb ρ F src J ∧ postS X.K Tb W B (forS g sb src m (i + 1) e h) D, fun σ' H' w => ⟨m, Nat.lt_succ_self m, w⟩, fun x H' y => ?_⟩
        obtain ⟨F', x1, s1, r1⟩ := g2 x H' y
        cases hg1 : g d e with
        | none => simp only [hg1] at p; exact p.elim
        | some e1 =>
          simp only [hg1] at p
          have wk1 : Wk X.K Tb ρ F' src J := wk.to x1.toUp
          have a0 := a.ext x1 s1
          refine rG_of a0 r1 hg1 fun σ' a2 => ⟨ρ, F', a0.u, ρ, F', e1, h, a2.here, ?_⟩
          exact loop_end (n := fun e2 h2 => forS g sb src m (i + 1) e2 h2) a0.u p fun e2 h2 p2 ρ2 F2 H2 σ2 a3 => ⟨ρ2, F2, e2, h2, a3.back a0.u, wk1.to a3.u, p2⟩
/-! ### while -/
def sWhile (c : M Bool) (b : Sm) : Nat → Sm
  | 0, _, _ => .stuck
  | n + 1, e, h => match c e h with
    | .ok false h1 => .nx e h1
    | .exc x h1 => .exc x e h1
    | .stuck => .stuck
    | .ok true h1 => match b e h1 with
      | .nx e2 h2 => sWhile c b n e2 h2
      | .ct e2 h2 => sWhile c b n e2 h2
      | .bk e2 h2 => .nx e2 h2
      | .rt v h2 => .rt v h2
      | .exc c e2 h2 => .exc c e2 h2
      | .stuck => .stuck
theorem pms_while (n : Nat) (hp : PassesOwn (model X.prog X.w) X.A X.env X.xe) (hc : PMT X Tb W c mt) (hb : PMB X Tb W body sb) : PMS X Tb W (.While c body [] pos) (sWhile mt sb n) := by
  refine ⟨fun B => PS.imp (ps_while hp hc.pt (hb.pb B)) fun D σ H q => ?_⟩
  refine ⟨fun m σ H => rdS X.K Tb W B (sWhile mt sb m) D σ H, ⟨n, q⟩, ?_⟩
  rintro m σ H ⟨ρ, F, e, h, a, p⟩
  cases m with
  | zero => exact p.elim
  | succ m =>
    refine ⟨ρ, F, e, h, a.s, a.rb.re, ?_⟩
    unfold sWhile at p
    cases hc : mt e h with
    | stuck => rw [hc] at p; exact p.elim
    | exc x h1 =>
      rw [hc] at p
      exact fun ρ1 F1 H1 ex s1 => p ρ1 F1 H1 σ (a.ext ex s1)
    | ok b h1 =>
      rw [hc] at p
      intro ρ1 F1 H1 x ex s1 hx
      subst hx
      have a1 := a.ext ex s1
      cases b with
      | false => exact p ρ1 F1 H1 σ a1
      | true =>
        refine ⟨fun σ H => rdS X.K Tb W B (sWhile mt sb m) D σ H, fun σ' H' w => ⟨m, Nat.lt_succ_self m, w⟩, ρ1, F1, e, h1, a1, ?_⟩
        dsimp only at p
        cases hf : sb e h1 with
        | nx e2 h2 => rw [hf] at p; exact fun ρ2 F2 H2 σ2 a2 => ⟨ρ2, F2, e2, h2, a2, p⟩
        | ct e2 h2 => rw [hf] at p; exact fun ρ2 F2 H2 σ2 a2 => ⟨ρ2, F2, e2, h2, a2, p⟩
        | bk e2 h2 => rw [hf] at p; exact p
        | rt v h2 => rw [hf] at p; exact p
        | exc c e2 h2 => rw [hf] at p; exact p
        | stuck => rw [hf] at p; exact p
/-! ### break, continue -/
theorem pms_break : PMS X Tb W (.Break pos) (fun e h => .bk e h) := ⟨fun B => PS.imp ps_break fun D σ H q => by
  obtain ⟨ρ, F, e, h, a, q⟩ := q
  exact q ρ F H σ a⟩
theorem pms_cont : PMS X Tb W (.Continue pos) (fun e h => .ct e h) := ⟨fun B => PS.imp ps_continue fun D σ H q => by
  obtain ⟨ρ, F, e, h, a, q⟩ := q
  exact q ρ F H σ a⟩
end
end PM
end
section
set_option Elab.async false
set_option linter.all false
set_option maxRecDepth 100000
set_option autoImplicit false
set_option maxHeartbeats 4000000
namespace PM
open PySem PySem.Spec PyProof.Rows L2

/-! ### defs -/
/-- what a def computes -/
abbrev PF := List PV → Hm → Res PV
def postF (K : PySem.W.Frag) (Tb : TBs) (ρ : List Addr) (F H : Hp) (r : Res PV) (Q : VK) (E : XK) : Prop := match r with
  | .ok v h => ∀ ρ' F' H' x, Ext ρ F H ρ' F' H' → Sim K Tb ρ' F' h H' → RV K ρ' F' v x → Q x H'
  | .exc c h => ∀ ρ' F' H', Ext ρ F H ρ' F' H' → Sim K Tb ρ' F' h H' → E (.ref (He.ga K c)) none H'
  | .stuck => False
def spP (K : PySem.W.Frag) (Tb : TBs) (n : Nat) (f : PF) : Sp := fun vs H Q E => ∃ ρ F h ds, Sim K Tb ρ F h H ∧ RVs K ρ F ds vs ∧ ds.length = n ∧ postF K Tb ρ F H (f ds h) Q E
def flRes : Fl → Res PV
  | .nx _ h => .ok .non h
  | .rt v h => .ok v h
  | .exc c _ h => .exc c h
  | _ => .stuck
def startP (N : Nat) (ds : List PV) : En := ds.map .val ++ List.replicate (N - ds.length) .no
/-- N names, n of them parameters -/
def bodyF (n N : Nat) (m : Sm) : PF := fun ds h => if ds.length = n then flRes (m (startP N ds) h) else .stuck
section
variable {P : Program} {w : World} {K : PySem.W.Frag} {mg : Str → Option Value} {base : Heap} {Tb : TBs}
theorem RE.begin {ρ : List Addr} {F H : Hp} {N : List Str} {ds : List PV} {vs : List V} (r : RVs K ρ F ds vs) : RE K ρ F H (startP N.length ds) (L2.start N vs) := by
  have noown : ∀ (i : Nat) xs, (startP N.length ds)[i]? ≠ some (.own xs) := fun i xs q => by
    unfold startP at q
    rcases Nat.lt_or_ge i ds.length with hi | hi
    · rw [List.getElem?_append_left (by simpa using hi), List.getElem?_map] at q
      cases hd : ds[i]? <;> rw [hd] at q <;> cases q
    · rw [List.getElem?_append_right (by simpa using hi), List.getElem?_replicate] at q
      split at q <;> cases q
  refine ⟨?_, fun i v q => ?_, fun i xs q => absurd q (noown i xs), fun i j xs ys p _ q => absurd q (noown i xs)⟩
  · unfold startP L2.start
    simp [r.len]
  · unfold startP at q
    rcases Nat.lt_or_ge i ds.length with hi | hi
    · rw [List.getElem?_append_left (by simpa using hi), List.getElem?_map] at q
      cases hd : ds[i]? with
      | none => rw [hd] at q; cases q
      | some d =>
        rw [hd] at q; cases q
        obtain ⟨x, e1, r1⟩ := r.get hd
        refine ⟨x, ?_, r1⟩
        unfold L2.start
        rw [List.getElem?_append_left (by rw [List.length_map, ← r.len]; exact hi), List.getElem?_map, e1]
        rfl
    · rw [List.getElem?_append_right (by simpa using hi), List.getElem?_replicate] at q
      split at q <;> cases q
theorem startP_own {N : Nat} {ds : List PV} (i : Nat) (xs : List PV) : (startP N ds)[i]? ≠ some (.own xs) := fun q => by
  unfold startP at q
  rcases Nat.lt_or_ge i ds.length with hi | hi
  · rw [List.getElem?_append_left (by simpa using hi), List.getElem?_map] at q
    cases hd : ds[i]? <;> rw [hd] at q <;> cases q
  · rw [List.getElem?_append_right (by simpa using hi), List.getElem?_replicate] at q
    split at q <;> cases q
abbrev WF (E : XK) : WX := fun cls d _ H => E cls d H
theorem run_body {N : List Str} {m : Sm} {ρ : List Addr} {F H : Hp} {h : Hm} {ds : List PV} {vs : List V} {Q : VK} {E : XK} (s : Sim K Tb ρ F h H) (r : RVs K ρ F ds vs) (p : postF K Tb ρ F H (flRes (m (startP N.length ds) h)) Q E) :
    rdS K Tb (WF E) ⟨ρ, F, H, ρ, F⟩ m { nx := fun _ H' => Q .non H', rt := Q } (L2.start N vs) H := by
  refine ⟨ρ, F, _, h, ⟨Ext.refl, s, ⟨.begin r, fun i xs p q => absurd q (startP_own i xs)⟩, ⟨fun _ _ e => e, fun _ _ e => e⟩⟩, ?_⟩
  cases hm : m (startP N.length ds) h with
  | nx e1 h1 => rw [hm] at p; exact fun ρ1 F1 H1 σ a => p ρ1 F1 H1 _ a.ex a.s .non
  | rt v h1 => rw [hm] at p; exact p
  | exc c e1 h1 => rw [hm] at p; exact fun ρ1 F1 H1 σ a => p ρ1 F1 H1 a.ex a.s
  | bk e1 h1 => rw [hm] at p; exact p.elim
  | ct e1 h1 => rw [hm] at p; exact p.elim
  | stuck => rw [hm] at p; exact p.elim
theorem fn_pm {x qual : Str} {params : Arguments} {body : List Stmt} {scope : Scope} {dvs : List V} {kws : List (Str × V)} {f : Addr} {fd : FuncData} {N ps : List Str} {k : Nat} {m : Sm} (F : FunD K x qual params body scope dvs kws f fd) (S : FnScope N ps scope)
    (hb : ∀ (cdv : Value) (A : Around) (outer : List Env) (s : Shared) (H : Hp) (E : XK), Room k (A.deeper (envOfC qual scope s.heap.objs.size f cdv)) → PMB (cxOf (L2.CX P w) P w K mg base N qual scope f cdv A outer s H E) Tb (WF E) body m) :
    FnOk P w K mg base (L2.CX P w) (k + 1) f fd ps (spP K Tb ps.length (bodyF ps.length N.length m)) := by
  refine F.ok S (fun vs H Q E h => ?_) fun cdv A outer s H vs Q E hr hsp => ?_
  · obtain ⟨ρ, F, h, ds, s, r, l, p⟩ := h
    rw [← r.len]; exact l
  · obtain ⟨ρ, F, h, ds, si, r, l, p⟩ := hsp
    refine ⟨_, (hb cdv A outer s H E hr).pb ⟨ρ, F, H, ρ, F⟩, ?_⟩
    unfold bodyF at p
    rw [if_pos l] at p
    exact run_body si r p
/-- nothing is promised -/
theorem fn_zero {f : Addr} {fd : FuncData} {ps : List Str} {k : Nat} : FnOk P w K mg base (L2.CX P w) k f fd ps (spP K Tb ps.length fun _ _ => .stuck) := by
  refine ⟨fun vs H Q E h => ?_, fun A outer s H args us vs Q E hr e0 hb r h => ?_⟩
  · obtain ⟨_, _, _, _, _, _, _, p⟩ := h
    exact p.elim
  · obtain ⟨_, _, _, _, _, _, _, p⟩ := h
    exact p.elim
end

/-! ### calls -/
def mCall (f : PF) (ms : M (List PV)) : M PV := fun e h => (ms e h).bind fun xs h1 => f xs h1
section
variable {X : Cx} {Tb : TBs} {W : WX} {k n : Nat} {f : Addr} {fd : FuncData} {ps : List Str} {F : PF} {x : Str} {p pos : Pos} {e : Expr} {es : List Expr} {ms : M (List PV)}
/-- the number of what is handed over is told -/
def LenM (n : Nat) (ms : M (List PV)) : Prop := ∀ e h xs h1, ms e h = .ok xs h1 → xs.length = n
theorem len_nil : LenM 0 mNil := fun e h xs h1 q => by cases q; rfl
theorem len_cons {n : Nat} {a : M PV} {ms : M (List PV)} (l : LenM n ms) : LenM (n + 1) (mCons a ms) := fun e h xs h1 q => by
  unfold mCons at q
  cases ha : a e h with
  | ok v h2 =>
    rw [ha] at q
    simp only [Res.bind] at q
    cases hr : ms e h2 with
    | ok vs h3 =>
      rw [hr] at q
      cases q
      simp [l e h2 vs _ hr]
    | exc c h3 => rw [hr] at q; cases q
    | stuck => rw [hr] at q; cases q
  | exc c h2 => rw [ha] at q; cases q
  | stuck => rw [ha] at q; cases q
theorem sp_call {K : PySem.W.Frag} {ρ : List Addr} {F0 H : Hp} {h : Hm} {σ : L2.St} {xs : List PV} {vs : List V} {Q : VK} (s : Sim K Tb ρ F0 h H) (r : RVs K ρ F0 xs vs) (l : xs.length = n) (p : post K Tb W (RV K) ρ F0 H σ (F xs h) Q) : spP K Tb n F vs H Q (WE W σ) := by
  refine ⟨ρ, F0, h, xs, s, r, l, ?_⟩
  cases hf : F xs h with
  | ok v h1 => rw [hf] at p; exact p
  | exc c h1 => rw [hf] at p; exact p
  | stuck => rw [hf] at p; exact p
theorem pm_call (G : FnOk X.prog X.w X.K X.mg X.base (L2.CX X.prog X.w) k f fd ps (spP X.K Tb ps.length F)) (hr : Room k X.A) (hx : ∀ σ, PassesAt (L2.CX X.prog X.w) X σ (WE W σ)) (hg : Gl X x) (hm : X.mg x = some (.ref f)) (hk : PySem.W.keepIn X.K (.ref f) = true) (hb : Binds X.K fd ps [])
    (ha : PMA X Tb W (e :: es) ms) (hl : LenM ps.length ms) (hdb : (x == ("__debug__" : Str)) = false := by decide) (he : starEach (e :: es) X.env = (false, eval e X.env) :: starEach es X.env := by rfl) (hpl : (backTo pos (starEach es X.env)).any (·.1) = false := by rfl) :
    PM X Tb W (.Call (.Name x p) (e :: es) [] pos) (mCall F ms) := ⟨PE.imp (pe_callS (E := WE W) G hr hg hm hk hb hx ha.pa hdb he hpl) fun σ H Q q => by
  obtain ⟨ρ, F0, e0, h, s, re, q⟩ := q
  refine ⟨ρ, F0, e0, h, s, re, ?_⟩
  unfold mCall at q
  have hl := hl e0 h
  cases hms : ms e0 h with
  | stuck => rw [hms] at q; exact q.elim
  | exc c h1 => rw [hms] at q; exact q
  | ok xs h1 =>
    rw [hms] at q
    exact fun ρ1 F1 H1 vs ex s1 r1 => sp_call s1 r1 (hl xs h1 hms) (post_ext ex q)⟩
theorem pm_call0 (G : FnOk X.prog X.w X.K X.mg X.base (L2.CX X.prog X.w) k f fd [] (spP X.K Tb 0 F)) (hr : Room k X.A) (hx : ∀ σ, PassesAt (L2.CX X.prog X.w) X σ (WE W σ)) (hg : Gl X x) (hm : X.mg x = some (.ref f)) (hk : PySem.W.keepIn X.K (.ref f) = true) (hb : Binds X.K fd [] [])
    (hdb : (x == ("__debug__" : Str)) = false := by decide) : PM X Tb W (.Call (.Name x p) [] [] pos) (mCall F mNil) := by
  refine ⟨⟨fun pins s σ H Q I h => ?_⟩⟩
  refine wpAny_Call_Name_kw (ld_glob I hg hm ?_ hdb)
  obtain ⟨ρ, F0, e0, hh, si, re, q⟩ := h
  exact PySem.W.callWith_K0 I.kIn hk (run_fnS (us := []) G hr hb (hx σ) I .nil (sp_call si .nil rfl q))
end
/-! ### a name of the top -/
section
variable {X : Cx} {Tb : TBs} {W : WX}
theorem pm_glob {x : Str} {v : PV} {y : V} {u : Value} {pos : Pos} (hg : Gl X x) (hm : X.mg x = some u) (r : RelV y u) (rv : ∀ ρ F, RV X.K ρ F v y) (hd : (x == ("__debug__" : Str)) = false := by decide) : PM X Tb W (.Name x pos) (mC v) := pm_c (pe_glob hg hm r hd) rv
end

/-! ### raise, try -/
def sRaise (c : Str) : Sm := fun e h => .exc c e h
section
variable {X : Cx} {Tb : TBs} {W : WX} {a : Expr} {pos : Pos}
theorem pms_raise {c : Str} (hc : X.calm = true) (tk : Takes X W) (he : PMk X a (fun _ H Q => Q (.ref (He.ga X.K c)) none H)) : PMS X Tb W (.Raise (some a) none pos) (sRaise c) := ⟨fun B => PS.imp (ps_raise hc tk he) fun D σ H q => by
  obtain ⟨ρ, F, e, h, a, q⟩ := q
  exact q ρ F H σ a⟩
def sTry (catch_ : Str → Option Bool) (b s : Sm) : Sm := fun e h => match b e h with
  | .exc c e1 h1 => match catch_ c with
    | some true => s e1 h1
    | some false => .exc c e1 h1
    | none => .stuck
  | r => r
theorem pms_try {catch_ : Str → Option Bool} {x : Str} {cv : Value} {b₀ : Stmt} {body suite : List Stmt} {sb ss : Sm} {np pos' : Pos} (hs : X.stack = X.env :: X.outer) (hf : X.env.frame = some X.env.locals) (hc : Names X x cv) (tk : Takes X W)
    (hx : ∀ c b, catch_ c = some b → PySem.W.exmOne X.K (.ref (He.ga X.K c)) cv = some b)
    (hb : ∀ (W' : WX) (pn : List (Addr × Obj)) (xe : Value → Shared → Prop), Takes (X.tr pn xe) W' → PassesOwn (model X.prog X.w) X.A X.env xe → PMB (X.tr pn xe) Tb W' body sb)
    (hsu : ∀ (a : Addr) (pn : List (Addr × Obj)), PMB (X.suite a pn) Tb W (b₀ :: suite) ss) : PMS X Tb W (.Try body [.ExceptHandler (some (.Name x np)) none (b₀ :: suite) pos'] [] [] pos) (sTry catch_ sb ss) := by
  refine ⟨fun B => PS.imp (ps_try_only (tb := fun W' => rdS X.K Tb W' B sb) (ts := fun _ _ _ => rdS X.K Tb W B ss) hs hf hc tk (fun W' pn xe t p => (hb W' pn xe t p).pb B) fun a oe cls d pn _ _ => (hsu a _).pb B) fun D σ H q => ?_⟩
  obtain ⟨ρ, F, e, h, at_, q⟩ := q
  refine ⟨ρ, F, e, h, at_, ?_⟩
  unfold sTry at q
  cases hm : sb e h with
  | exc c e1 h1 =>
    rw [hm] at q
    intro ρ1 F1 H1 σ1 a1
    dsimp only at q
    cases hcc : catch_ c with
    | none => rw [hcc] at q; exact q.elim
    | some b =>
      rw [hcc] at q
      refine ⟨b, hx c b hcc, fun hb a _ => ?_, fun hb => ?_⟩
      · subst hb
        exact ⟨ρ1, F1, e1, h1, a1, q⟩
      · subst hb
        exact q ρ1 F1 H1 σ1 a1
  | _ => rw [hm] at q; exact q
end
end PM
end
section
set_option Elab.async false
set_option linter.all false
set_option maxRecDepth 100000
set_option autoImplicit false
set_option maxHeartbeats 4000000
namespace PM
open PySem PySem.Spec PyProof.Rows L2

/-! ### exceptions in a block: the frame L that runs is not the block's own dict -/
structure Frm (X : Cx) (L : Addr) : Prop where
  ex : ∃ env0 outer0, X.stack = env0 :: outer0 ∧ env0.frame = some L
  fr : X.env.frame = some L
def XL (X : Cx) (L : Addr) (W : WX) (u : Value) (s' : Shared) : Prop :=
  ∃ (a : Addr) (B : Heap) (sI : Shared) (pins : List (Addr × Obj)) (σ : L2.St) (H : Hp) (cls : Value) (d : Option Addr), u = .ref a ∧ Inv X pins σ H sI ∧ (∀ b o, sI.heap.get? b = some o → b ∉ frs X.stack → B.get? b = some o) ∧
    sI.heap.UpToSlots s'.heap ∧ Sky B X.stack a (Zc cls d) L s'.heap ∧ H a = none ∧ s'.os = sI.os ∧ AllBare s'.gens ∧ W cls d σ H
def TakesL (X : Cx) (L : Addr) (W : WX) : Prop := ∀ u s', XL X L W u s' → X.xe u s'
theorem takes_toL {X : Cx} {W : WX} (t : Takes X W) : TakesL X X.env.locals W := t
section
variable {X : Cx} {W : WX} {E : XK} {L : Addr} {pins : List (Addr × Obj)} {σ : L2.St} {H : Hp} {s s' : Shared}
theorem XL.call (I : Inv X pins σ H s) (hW : ∀ cls d H', E cls d H' → W cls d σ H') {u : Value} (c : L2.CX X.prog X.w X.stack H s E u s') : XL X L W u s' := by
  obtain ⟨a, B, H1, cls, d, rfl, fly, ok, ub, hn, os, ag, hE⟩ := c
  obtain ⟨G, in_, out⟩ := restrict s'.heap fun b => decide (b ∈ frs X.stack) || (B.get? b).isSome
  have fromB : ∀ b o, B.get? b = some o → G.get? b = some o := fun b o e => (in_ b (by rw [e]; simp)).trans (fly.1 b o e)
  have atF : ∀ b ∈ frs X.stack, G.get? b = s'.heap.get? b := fun b hb => in_ b (by rw [decide_eq_true hb]; rfl)
  have ofG : ∀ b o, G.get? b = some o → s'.heap.get? b = some o ∧ (b ∈ frs X.stack ∨ (B.get? b).isSome = true) := fun b o e => by
    cases q : decide (b ∈ frs X.stack) || (B.get? b).isSome with
    | true =>
      rw [in_ b q] at e
      rcases Bool.or_eq_true _ _ ▸ q with z | z
      · exact ⟨e, .inl (of_decide_eq_true z)⟩
      · exact ⟨e, .inr z⟩
    | false => rw [out b q] at e; cases e
  have slots : ∀ b o, s.heap.get? b = some o → b ∈ frs X.stack → ∃ sl, G.get? b = some { o with slots := sl } := fun b o e hb => by
    obtain ⟨sl, q⟩ := ub.slot b o e hb
    exact ⟨sl, (atF b hb).trans q⟩
  have un : Un (frs X.stack) [] H H1 s.heap G := ⟨fun b o e n hb _ => fromB b o (ub.keep b o e n hb), fun b o e n hb _ => slots b o e hb, fun b o e n _ => ub.free b o e n, fun b o e _ => by
      by_cases hb : b ∈ frs X.stack
      · obtain ⟨_, q⟩ := slots b o e hb
        exact ⟨_, q⟩
      · obtain ⟨o', q⟩ := ub.there b o e hb
        exact ⟨o', fromB b o' q⟩, ub.tups, ub.frzs, ub.tbls⟩
  refine ⟨a, B, { s with heap := G, gens := s'.gens, drawn := s'.drawn, toks := s'.toks }, pins, σ, H1, cls, d, rfl, I.call (ch := []) un (ok.kept fromB) ag (fun _ z => nomatch z), fun b o e hb => ?_, Heap.UpToSlots.of_keeps fun b o e => (ofG b o e).1, .inr (.inl fly), hn, os, ag, hW _ _ _ hE⟩
  obtain ⟨e', h⟩ := ofG b o e
  rcases h with h | h
  · exact absurd h hb
  · obtain ⟨o', q⟩ := Option.isSome_iff_exists.mp h
    have z := fly.1 b o' q
    rw [e'] at z
    cases z
    exact q
/-- all that calls let out is taken -/
def PassAll (X : Cx) (W : WX) : Prop := ∀ σ, PassesAt (L2.CX X.prog X.w) X σ (WE W σ)
theorem takesL_pass (t : TakesL X L W) : PassAll X W := fun σ _ _ _ _ s' I c => t _ s' (XL.call I (fun _ _ _ h => h) c)
theorem takes_pass (t : Takes X W) : PassAll X W := takesL_pass (takes_toL t)
/-- noted by the frame that runs -/
theorem sky_held {M : Model} {A : Around} {E₁ : Value → Shared → Prop} {B : Heap} {env0 env : Env} {outer0 : List Env} {a : Addr} {Z : Obj → Prop} {Q : Unit → Shared → Prop} (hZ : HandSPX.Steady Z) (hfr : A.frames = some (env0 :: outer0)) (hf : env0.frame = some L) (he : env.frame = some L)
    (x : Sky B (env0 :: outer0) a Z L s.heap) (hQ : ∀ h', HandSPX.HeldZ B (env0 :: outer0) a Z L h' → s.heap.UpToSlots h' → Q () { s with heap := h' }) : wpAny M A (noteFrame (.ref a) env) Q E₁ s := by
  rw [noteFrame_env _ (he.trans hf.symm)]
  rcases x with ⟨hB, hn, hl, oe, vs, h0, hz, hd, h1⟩ | fl | hh
  · exact HandSPX.look_newZ hZ hfr hl hf h0 hB hn hd h1 hz hQ
  · exact HandSPX.looks_onZ hZ hfr hf fl hQ
  · exact HandSPX.againZ hf hh.2.2.2 (hQ s.heap hh (Heap.UpToSlots.refl _))
/-- what leaves a block whose dict is C reaches the text around -/
theorem blk_takes {X1 : Cx} {cenv : Env} {use : Option (Value → Sem Unit)} {Qf : Value → Shared → Prop} {acc : Value} (tk : TakesL X L W) (fm : Frm X L) (hfrm : cenv.frame = X.env.frame) (hst : X1.stack = X.stack) (hA : X1.A = X.A) (hfrs : X.A.frames = some X.stack) (hC1 : X1.env.locals = cenv.locals)
    (back : ∀ σ' H' sI pins', Inv X1 pins' σ' H' sI → Inv X pins σ H' sI) (fC : ∀ H', H' cenv.locals = none → FpOk X pins H' cenv.locals) (nC : cenv.locals ∉ frs X.stack) {W1 : WX} (hW : ∀ cls d σ' H', W1 cls d σ' H' → W cls d σ H') :
    ∀ u s', XL X1 L W1 u s' → notedBy (model X.prog X.w) X.A cenv (CompFails (model X.prog X.w) X.A X.xe cenv) u s' := by
  rintro u s' ⟨a, B, sI, pins', σ', H', cls, d, rfl, I1, nb, up, sky, na, os, ag, w⟩
  rw [hst] at nb sky
  obtain ⟨env0, outer0, es, ef⟩ := fm.ex
  have hfe : cenv.frame = some L := hfrm.trans fm.fr
  show wpAny _ _ (noteFrame (.ref a) cenv) _ _ _
  rw [es] at sky
  refine sky_held Zc.steady (by rw [hfrs, es]) ef hfe sky fun h1 hh up1 => ?_
  obtain ⟨m, hn, _⟩ := I1.loc
  rw [hC1] at hn
  have hn1 : h1.Ns cenv.locals m := (up.trans up1).ns hn
  refine ⟨m, hn1, fun h2 m2 hn2 sb => ?_⟩
  obtain ⟨oC, _, _, hoC, _⟩ := id hn
  have hBC : B.get? cenv.locals = some oC := nb _ _ hoC nC
  obtain ⟨k1, k2, k3, oe, vs, T, oT, ts, he, hz, hd, hv1, hnT, hTe, hT, hdT, hts⟩ := hh
  have nea : a ≠ cenv.locals := fun z => by rw [z, hBC] at k2; cases k2
  have neT : T ≠ cenv.locals := fun z => by rw [z, hBC] at hnT; cases hnT
  obtain ⟨G, gin, gout⟩ := restrict B fun b => !(b == cenv.locals)
  have gB : ∀ b o, G.get? b = some o → b ≠ cenv.locals ∧ B.get? b = some o := fun b o e => by
    by_cases hb : b = cenv.locals
    · rw [gout b (by simp [hb])] at e; cases e
    · exact ⟨hb, (gin b (by simp [hb])).symm.trans e⟩
  have gn : ∀ b, B.get? b = none → G.get? b = none := fun b e => by
    cases q : G.get? b with
    | none => rfl
    | some o => rw [(gB b o q).2] at e; cases e
  have G2 : G.StaysIn h2 := fun b o e => (sb.2 b (gB b o e).1).trans (k1 b o (gB b o e).2)
  have k3' : h1.FunFrames G (env0 :: outer0) := funFrames_none k3 fun b hb => gn b (k3.mem hb).1
  have F2 : h2.FunFrames G (env0 :: outer0) := Heap.FunFrames.sameBut sb hn2 k3'
  have hh2 : HandSPX.HeldZ G (env0 :: outer0) a (Zc cls d) L h2 := ⟨G2, gn a k2, F2, oe, vs, T, oT, ts, (sb.2 a nea).trans he, hz, hd, hv1, gn T hnT, hTe, (sb.2 T neT).trans hT, hdT, hts⟩
  unfold PySem.passOn
  refine wpAny_bind (wpAny_field ((sb.2 a nea).trans he) hd hv1 ?_)
  rw [if_neg (show ¬ ((Value.ref T == Value.none) = true) from by simp), hfe]
  have fin : wpAny (model X.prog X.w) X.A (setFlight (.ref a) (some L)) (fun _ s4 => wpAny (model X.prog X.w) X.A (throw (.ref a) : Sem Value) (fun _ _ => False) X.xe s4) X.xe { s' with heap := h2 } := by
    refine HandSPX.setFlight_onZ hh2 fun h3 hh3 up3 => wpAny_throw (tk _ _ ?_)
    obtain ⟨J, jin, jout⟩ := restrict sI.heap fun b => !(b == cenv.locals)
    have jI : ∀ b o, J.get? b = some o → b ≠ cenv.locals ∧ sI.heap.get? b = some o := fun b o e => by
      by_cases hb : b = cenv.locals
      · rw [jout b (by simp [hb])] at e; cases e
      · exact ⟨hb, (jin b (by simp [hb])).symm.trans e⟩
    have fr0 : H' cenv.locals = none := by rw [← hC1]; exact I1.free
    obtain ⟨f0, f1, f2, f3, f4, f5⟩ := fC H' fr0
    have I0 : Inv X pins σ H' { sI with heap := J } := (back _ _ _ _ I1).turned (t' := sI.toks) (it := cenv.locals) (fun b o hb e => (jin b (by simp [hb])).trans e) f0 f1 f3 f4 f5
    refine ⟨a, G, { sI with heap := J }, pins, σ, H', cls, d, rfl, I0, fun b o e hb => ?_, fun b o e hd' => ?_, .inr (.inr (by rw [es]; exact hh3)), na, os, ag, hW _ _ _ _ w⟩
    · obtain ⟨n1, e1⟩ := jI b o e
      exact (gin b (by simp [n1])).trans (nb b o e1 hb)
    · obtain ⟨n1, e1⟩ := jI b o e
      obtain ⟨sl, e2⟩ := (up.trans up1) b o e1 hd'
      obtain ⟨sl2, e3⟩ := up3 b { o with slots := sl } ((sb.2 b n1).trans e2) hd'
      exact ⟨sl2, e3⟩
  first
    | exact wpAny_bind (wpAny_pure (wpAny_bind fin))
    | exact wpAny_bind fin
end
end PM
end
section
set_option Elab.async false
set_option linter.all false
set_option maxRecDepth 100000
set_option autoImplicit false
set_option maxHeartbeats 4000000
namespace PM
open PySem PySem.Spec PyProof.Rows L2

abbrev blkx (X : Cx) (s : Shared) (H : Hp) (scope : Scope) (cenv : Env) (fp : List Addr) (xe : Value → Shared → Prop) : Cx := (X.blk s H scope cenv fp).tr [] xe
/-- a word about each block's context -/
abbrev AtBlk (X : Cx) (scope : Scope) (R : Cx → Prop) : Prop := ∀ (s : Shared) (H : Hp) (C : Addr) (cl : List (Str × Addr)) (fp : List Addr) (xe : Value → Shared → Prop), R (blkx X s H scope (compEnvC scope cl C X.env) fp xe)
/-- what is wanted of exceptions, told at the state σ around -/
abbrev WAt (W : WX) (σ : L2.St) : WX := fun c d _ H => W c d σ H
def tLcX (wi : TI) (g : TG) (tt : L2.St → TT) (te : L2.St → TE) (vs : List Nat) : TE := fun σ H Q => wi σ H fun J H1 => ∀ D, H1 D = none → ∃ V : Nat → Nat → Hp → Prop, (∃ m, V 0 m (upd H1 D (.lst []))) ∧ ∀ i m H, V i m H →
  (J.stop i H ∧ Q (.ref D) H) ∨ (J.go i H ∧ ∃ N : Hp → Prop, (∀ H', N H' → ∃ m', m' < m ∧ V (i + 1) m' H') ∧ ∀ x H', J.yld i H x H' → g x (wipe σ vs) H' fun σ2 H2 => wipe σ2 vs = wipe σ vs ∧ tt σ σ2 H2 fun b H3 =>
    if b = true then te σ σ2 H3 fun y H4 => ∃ ys, H4 D = some (.lst ys) ∧ ys.length < sizeLine ∧ N (upd H4 D (.lst (ys ++ [y]))) else N H3)
section
variable {X : Cx} {W : WX} {L : Addr} {elt tg iter : Expr} {ifs : List Expr} {scope : Scope} {own : List (Str × Nat)} {pos pos' : Pos} {wi : TI} {g : TG} {tt : L2.St → TT} {te : L2.St → TE}
theorem lcX {pins : List (Addr × Obj)} {s : Shared} {σ : L2.St} {H : Hp} {Q : VK} {use : Option (Value → Sem Unit)} {Qf : Value → Shared → Prop} (hc : X.calm = true) (hN : X.N.Nodup) (I : Inv X pins σ H s) (hi : PI X tg iter wi) (ok : BlkOk X.N X.env.scope scope own) (tk : TakesL X L W) (fm : Frm X L)
    (hg : AtBlk X scope fun Y => PG Y tg g) (ht : ∀ σ, AtBlk X scope fun Y => TakesL Y L (WAt W σ) → PTs Y ifs (tt σ)) (he : ∀ σ, AtBlk X scope fun Y => TakesL Y L (WAt W σ) → PE Y elt (te σ)) (hs : ∀ x, foldedSetIterable iter X.env x = pure x)
    (h : tLcX wi g tt te (own.map (·.2)) σ H Q)
    (hend : ∀ D C s' m H' ce, Inv X pins σ H' s' → Q (.ref D) H' → s'.heap.Ns C m → FpOk X pins H' C → ce.locals = C → compEnds (model X.prog X.w) X.A X.xe use Qf (.ref D) ce (.ok .next) s') :
    wpAny (model X.prog X.w) X.A (comprehension (.ListComp elt [⟨tg, iter, ifs, 0⟩] scope pos) scope X.env pos' (newList []) false (eval iter X.env) use) Qf X.xe s := by
  have caps : ∀ y ∈ scope.names, y.2 = .free → ∃ c, X.env.cells.lookup y.1 = some c := fun y hy e => (ok.free y hy e).elim (fun k => I.ok.has _ (.inl k)) fun k => I.ok.has _ (.inr k)
  refine comprehension_at (use := use) rfl hs (closure_ok caps) ok.kind (fun y hy e => (ok.uniq y hy).trans (by rw [e])) (thn (hi.run pins s σ H _ I h) fun _ s1 hx => thn hx fun _ s2 h2 => ?_)
  obtain ⟨it, fp, tn, J, H2, rfl, I2, T, st2, f2, q⟩ := h2
  refine wpAny_newObj_type (newEnv_comp ?_) (by show 0 ≤ sizeLine; decide)
  generalize hD : s2.heap.objs.size = D
  obtain ⟨V, ⟨m0, v0⟩, turn⟩ := q D (I2.hok.fresh (Nat.le_of_eq hD))
  generalize hz : ({ s2 with heap := s2.heap.push { cls := .type "list", data := .seq ([] : List Value).toArray } } : Shared) = z
  have hzh : z.heap = s2.heap.push { cls := .type "list", data := .seq ([] : List Value).toArray } := by rw [← hz]
  have zk : ∀ b o, s2.heap.get? b = some o → z.heap.get? b = some o := fun b o e => by rw [hzh]; exact Heap.get?_push_of_some _ e
  have Iz : Inv X pins σ (upd H2 D (.lst [])) z := by
    rw [← hz]
    exact I2.laid (t' := s2.toks) (fun b o e => Heap.get?_push_of_some _ e) (Nat.le_of_eq hD) ⟨Nat.zero_le _, [], 0, .nil, by rw [← hD]; exact Heap.get?_push_size _ rfl⟩
  have fz : ∀ b ∈ fp, FpOk X pins (upd H2 D (.lst [])) b ∧ b < z.heap.objs.size := fun b hb => by
    obtain ⟨o, e, _⟩ := T.obj _ _ st2 b hb
    have hlt := Heap.lt_size e
    refine ⟨⟨?_, (f2 b hb).2⟩, by rw [hzh, Heap.size_push]; exact Nat.lt_succ_of_lt hlt⟩
    rw [upd_ne (by rw [← hD]; exact Nat.ne_of_lt hlt)]
    exact (f2 b hb).1
  have stz : tn 0 z.heap := T.keep _ _ _ st2 fun b _ o e => zk b o e
  generalize hcl : cellsFrom (z.heap.objs.size + 1) scope.names (cloFrom X.env.cells scope.names []) = cl
  generalize hce : compEnvC scope cl z.heap.objs.size X.env = ce
  have ceL : ce.locals = z.heap.objs.size := by rw [← hce]; rfl
  have ceF : ce.frame = X.env.frame := by rw [← hce]; rfl
  generalize hG : upd H2 D (.lst []) = G at Iz fz v0
  generalize hxe : (notedBy (model X.prog X.w) X.A ce fun e s' => compEnds (model X.prog X.w) X.A X.xe use Qf (.ref D) ce (.error e) s') = xe
  have Ib0 := block_start Iz ok hN fz
  rw [hcl, hce] at Ib0
  have Ib : Inv (blkx X z G scope ce fp xe) [] (wipe σ (own.map (·.2))) G _ := Ib0.toTry xe
  have pg := hg z G z.heap.objs.size cl fp xe
  have pt := ht σ z G z.heap.objs.size cl fp xe
  have pe := he σ z G z.heap.objs.size cl fp xe
  rw [hce] at pg pt pe
  have back : ∀ (σ' : L2.St) (H' : Hp) (sI : Shared) (pins' : List (Addr × Obj)), Inv (blkx X z G scope ce fp xe) pins' σ' H' sI → Inv X pins σ H' sI := fun σ' H' sI pins' J1 =>
    Iz.call' (ch := fp) J1.os J1.base J1.hok J1.bare fun b hb => ⟨(fz b hb).1.2.2.2.1, (fz b hb).1.2.1, (fz b hb).1.2.2.2.2.1, (fz b hb).1.2.2.2.2.2⟩
  have tb : TakesL (blkx X z G scope ce fp xe) L (WAt W σ) := fun u s' x => by
    have q := blk_takes (X1 := blkx X z G scope ce fp xe) (cenv := ce) (use := use) (Qf := Qf) (acc := .ref D) (pins := pins) (σ := σ) (W1 := WAt W σ) tk fm ceF rfl rfl I.ok.frames rfl back (fun H' hn => by rw [ceL] at hn ⊢; exact Iz.fpOk (Nat.le_refl _) hn)
      (fun hm => by
        obtain ⟨_, o, e, _⟩ := Iz.stack.mem hm
        rw [ceL] at e
        exact absurd (Heap.lt_size e) (Nat.lt_irrefl _)) (fun _ _ _ _ w => w) u s' x
    show xe u s'
    rw [← hxe]
    cases use <;> exact q
  have pt := pt tb
  have pe := pe tb
  have nfp : ∀ b ∈ fp, G b = none := fun b hb => (fz b hb).1.1
  show codeAny _ _ (.compStart (.ListComp elt [⟨tg, iter, ifs, 0⟩] scope pos) 0 (.ref it) (.ref D) (compEnvC scope cl z.heap.objs.size X.env)) (compEnds (model X.prog X.w) X.A X.xe use Qf (.ref D) (compEnvC scope cl z.heap.objs.size X.env)) { z with heap := pushCells (z.heap.push { cls := .type "dict", data := .dict #[] }) scope.names }
  rw [hce]
  generalize hs4 : ({ z with heap := pushCells (z.heap.push { cls := .type "dict", data := .dict #[] }) scope.names } : Shared) = y at Ib ⊢
  have sty : tn 0 y.heap := T.keep _ _ _ stz fun b _ o e => by rw [← hs4]; exact pushCells_keeps _ _ _ _ (Heap.get?_push_of_some _ e)
  have stat : ∀ {σ' : L2.St} {H' : Hp} {s' : Shared}, Inv (blkx X z G scope ce fp xe) [] σ' H' s' → (∀ b ∈ fp, H' b = none) → ∀ b ∈ fp, FpOk (blkx X z G scope ce fp xe) [] H' b := fun J1 hn b hb =>
    ⟨hn b hb, (J1.ok.exf b hb).1, J1.ok.exfs b hb, .inl hb, fun x c e => (J1.ok.exf b hb).2 x c e, fun p hp => absurd (show p ∈ ([] : List (Addr × Obj)) ++ [] from hp) (by simp)⟩
  have loop : codeAny (model X.prog X.w) X.A (.compLoop (.ListComp elt [⟨tg, iter, ifs, 0⟩] scope pos) 0 (.ref it) (.ref D) ce) (compEnds (model X.prog X.w) X.A X.xe use Qf (.ref D) ce) y := by
    refine compLoop_any (fun n s' => ∃ i H', Inv (blkx X z G scope ce fp xe) [] (wipe σ (own.map (·.2))) H' s' ∧ tn i s'.heap ∧ (∀ b ∈ fp, H' b = none) ∧ V i n H') ?_ m0 ⟨0, G, Ib, sty, nfp, v0⟩
    rintro n y1 ⟨i, H5, I5, st5, n5, v5⟩
    rw [hxe]
    rcases turn i n H5 v5 with ⟨stop, qq⟩ | ⟨go, N, hNx, step⟩
    · refine thn (T.done (blkx X z G scope ce fp xe) rfl rfl rfl hc i [] y1 _ H5 xe I5 (stat I5 n5) st5 stop) fun r y2 ⟨hr, I6⟩ => ?_
      subst hr
      have nC : H5 z.heap.objs.size = none := by
        have q : H5 ce.locals = none := I6.free
        rw [ceL] at q
        exact q
      obtain ⟨m, hn, _⟩ := I6.loc
      have hn : y2.heap.Ns ce.locals m := hn
      rw [ceL] at hn
      exact hend D z.heap.objs.size y2 m H5 ce (back _ _ _ _ I6) qq hn (Iz.fpOk (Nat.le_refl _) nC) ceL
    · refine thn (T.item (blkx X z G scope ce fp xe) rfl rfl rfl hc i [] y1 _ H5 xe I5 (stat I5 n5) st5 go) fun r y2 ⟨u, hr, h6⟩ => ?_
      subst hr
      refine thn h6 fun _ y3 ⟨x, H7, I7, r7, yl, st7, n7⟩ => ?_
      have I7p := I7.pinned (stat I7 n7) (T.obj _ _ st7)
      refine thn (pg.run _ y3 _ H7 x u _ I7p r7 (step x H7 yl)) fun _ y4 ⟨σ8, H8, I8, hw, q8⟩ => ?_
      refine thn (pt.run _ y4 σ8 H8 _ I8 q8) fun b y5 ⟨H9, I9, q9⟩ => ?_
      have fin : ∀ {s' : Shared} {H' : Hp}, Inv (blkx X z G scope ce fp xe) ([] ++ pinsAt fp y3.heap) σ8 H' s' → N H' → ∃ m, m < n ∧ ∃ i H', Inv (blkx X z G scope ce fp xe) [] (wipe σ (own.map (·.2))) H' s' ∧ tn i s'.heap ∧ (∀ b ∈ fp, H' b = none) ∧ V i m H' := fun {s' H'} I' nx => by
        obtain ⟨m', hm, w'⟩ := hNx H' nx
        have pn : ∀ b ∈ fp, ∀ o, y3.heap.get? b = some o → s'.heap.get? b = some o ∧ H' b = none := fun b hb o e => by
          have q := I'.pin (b, o) (List.mem_append_right _ (List.mem_append_right _ (mem_pinsAt hb e)))
          exact ⟨q.1, q.2.1⟩
        refine ⟨m', hm, i + 1, H', (I'.unpinned (pins := [])).weak (by rw [← hw, wipe_length]) (fun j v e => ?_), T.keep _ _ _ st7 fun b hb o e => (pn b hb o e).1, fun b hb => ?_, w'⟩
        · rw [← hw] at e
          exact (wipe_some e).1
        · obtain ⟨o, e, _⟩ := T.obj _ _ st7 b hb
          exact (pn b hb o e).2
      cases b with
      | false =>
        simp only [Bool.false_eq_true, if_false] at q9 ⊢
        exact fin I9 q9
      | true =>
        simp only [if_true] at q9 ⊢
        refine thn (pe.run _ y5 σ8 H9 _ I9 q9) fun v y6 ⟨yv, H10, I10, r10, ys, hD10, hz10, nx⟩ => ?_
        exact app_ok (X := blkx X z G scope ce fp xe) I10 hD10 hz10 r10 fun y7 I11 => fin I11 nx
  exact codeAny_compStart_list loop (T.self X.A 0 _ _ _ sty loop)
/-- as a value -/
theorem pe_lcX (hc : X.calm = true) (hN : X.N.Nodup) (hi : PI X tg iter wi) (ok : BlkOk X.N X.env.scope scope own) (tk : TakesL X L W) (fm : Frm X L)
    (hg : AtBlk X scope fun Y => PG Y tg g) (ht : ∀ σ, AtBlk X scope fun Y => TakesL Y L (WAt W σ) → PTs Y ifs (tt σ)) (he : ∀ σ, AtBlk X scope fun Y => TakesL Y L (WAt W σ) → PE Y elt (te σ)) (hs : ∀ x, foldedSetIterable iter X.env x = pure x := by intro _; rfl) :
    PE X (.ListComp elt [⟨tg, iter, ifs, 0⟩] scope pos) (tLcX wi g tt te (own.map (·.2))) := by
  refine ⟨fun pins s σ H Q I h => ?_⟩
  rw [eval_ListComp]
  refine lcX hc hN I hi ok tk fm hg ht he hs h fun D C s' m H' ce I' q hn f eC => ⟨m, by rw [eC]; exact hn, fun h2 sb => ?_⟩
  rw [eC] at sb
  obtain ⟨f0, f1, f2, f3, f4, f5⟩ := f
  exact ⟨.ref D, H', I'.turned (t' := s'.toks) (fun b o hb e => (sb.2 b hb).trans e) f0 f1 f3 f4 f5, rfl, q⟩
/-- name = [..] on one line -/
theorem ps_setLcX {i : Nat} {y : Str} {py spos : Pos} (hc : X.calm = true) (hN : X.N.Nodup) (hy : X.N[i]? = some y) (hyl : X.env.scope.names.lookup y = some .local)
    (hsw : swapsWith (.ListComp elt [⟨tg, iter, ifs, 0⟩] scope pos) (some (.Name y py)) spos.line X.env = pure true) (hi : PI X tg iter wi) (ok : BlkOk X.N X.env.scope scope own) (tk : TakesL X L W) (fm : Frm X L)
    (hg : AtBlk X scope fun Y => PG Y tg g) (ht : ∀ σ, AtBlk X scope fun Y => TakesL Y L (WAt W σ) → PTs Y ifs (tt σ)) (he : ∀ σ, AtBlk X scope fun Y => TakesL Y L (WAt W σ) → PE Y elt (te σ)) (hs : ∀ x, foldedSetIterable iter X.env x = pure x := by intro _; rfl) :
    PS X (.Assign [.Name y py] (.ListComp elt [⟨tg, iter, ifs, 0⟩] scope pos) spos) (tAsg (tLcX wi g tt te (own.map (·.2))) (gName i)) := by
  refine ⟨fun pins s σ H D I h => ?_⟩
  rw [exec_Assign_Name_used _ _ _ _ hsw]
  refine wpAny_bind (wpAny_standAt (wpAny_bind ?_))
  show wpAny _ X.A (do let _ ← comprehension (.ListComp elt [⟨tg, iter, ifs, 0⟩] scope pos) scope X.env (firstIterPos [⟨tg, iter, ifs, 0⟩] pos) (newList []) false (eval iter X.env) (some (assign (.Name y py) X.env))) _ _ s
  have h : tLcX wi g tt te (own.map (·.2)) σ H (fun x H1 => gName i x σ H1 D.nx) := h
  refine wpAny_bind (thn (lcX (Qf := fun _ s' => SP X pins D .next s') hc hN I hi ok tk fm hg ht he hs h fun l C s' m H' ce I' q hn f eC => ?_) fun _ s' hq => wpAny_pure (wpAny_pure hq))
  show wpAny _ _ (assign (.Name y py) X.env (.ref l)) _ _ _
  refine wpAny_assign_Name (store_ok2 (v := V.ref l) I' hN hy (.inl hyl) rfl (fun s2 I2 ⟨a, sb, ha⟩ => ?_) (.inr hyl))
  obtain ⟨f0, f1, f2, f3, f4, f5⟩ := f
  have ne : C ≠ a := ha.elim (fun q => by rw [q]; exact f1) fun q => fun e => f4 y a q e.symm
  refine ⟨m, by rw [eC]; exact hn.sameBut sb ne, fun h3 sb3 => ?_⟩
  rw [eC] at sb3
  exact ⟨_, H', I2.turned (t' := s2.toks) (fun b o hb e => (sb3.2 b hb).trans e) f0 f1 f3 f4 f5, q⟩
end
end PM
end
section
set_option Elab.async false
set_option linter.all false
set_option maxRecDepth 100000
set_option autoImplicit false
set_option maxHeartbeats 4000000
namespace PM
open PySem PySem.Spec PyProof.Rows L2

/-! ### a list that is being made: no part of what is told yet -/
structure Gb (ρ : List Addr) (F H : Hp) (D : Addr) (ys : List V) : Prop where
  at_ : H D = some (.lst ys)
  nf : F D = none
  nr : D ∉ ρ
section
variable {K : PySem.W.Frag} {Tb : TBs} {W : WX} {α β γ δ : Type} {R : List Addr → Hp → α → β → Prop} {S : List Addr → Hp → γ → δ → Prop} {ρ ρ' ρ0 : List Addr} {F F' F0 H H' H0 : Hp} {σ : L2.St} {D : Addr} {ys : List V} {h : Hm}
theorem Gb.ext (g : Gb ρ F H D ys) (x : Ext ρ F H ρ' F' H') : Gb ρ' F' H' D ys := by
  refine ⟨x.keep D _ g.at_ g.nr (fun _ z => by cases z), ?_, fun z => ?_⟩
  · cases q : F' D with
    | none => rfl
    | some o =>
      rcases x.fr D o q with z | z
      · rw [g.nf] at z; cases z
      · rw [g.at_] at z; cases z
  · obtain ⟨n, e, hn⟩ := x.new
    rw [e] at z
    rcases List.mem_append.mp z with z | z
    · exact g.nr z
    · have q := g.at_
      rw [hn D z] at q; cases q
/-- it is written -/
theorem Sim.gb {O : HO} (s : Sim K Tb ρ F h H) (nf : F D = none) (nr : D ∉ ρ) (nt : H D = none ∨ ∃ zs, H D = some (.lst zs)) : Sim K Tb ρ F h (upd H D O) := by
  have nF : ∀ b u, F b = some u → b ≠ D := fun b u e z => by rw [z, nf] at e; cases e
  refine ⟨fun b u e => by rw [upd_ne (nF b u e)]; exact s.le b u e, s.len, s.nd, s.off, fun i o e => ?_, fun P hP => ?_, s.tf, s.lm.mono (fun b u e nl _ => by rw [upd_ne (fun z => by rw [z] at e; rcases nt with q | ⟨zs, q⟩ <;> (rw [q] at e; cases e); exact nl _ rfl)]; exact e) (fun _ _ z => z)⟩
  · obtain ⟨p, O', e1, e2, r⟩ := s.ob i o e
    exact ⟨p, O', e1, by rw [upd_ne (fun z => nr (by rw [← z]; exact List.mem_of_getElem? e1))]; exact e2, r⟩
  · obtain ⟨ps, e, t⟩ := s.tb P hP
    refine ⟨ps, ?_, t⟩
    rw [upd_ne]
    · exact e
    · intro z
      rw [z] at e
      rcases nt with q | ⟨zs, q⟩ <;> (rw [q] at e; cases e)
theorem Ext.gb {O : HO} (x : Ext ρ0 F0 H0 ρ F H) (n0 : H0 D = none) : Ext ρ0 F0 H0 ρ F (upd H D O) := by
  refine ⟨x.new, x.up, x.fr, fun p u e np nt => ?_, fun p e => ?_⟩
  · rw [upd_ne (fun z => by rw [z, n0] at e; cases e)]
    exact x.keep p u e np nt
  · by_cases hp : p = D
    · rw [hp, upd_same]; simp
    · rw [upd_ne hp]; exact x.per p e
/-- at last it stands as it is -/
theorem Sim.froze (s : Sim K Tb ρ F h H) (g : Gb ρ F H D ys) : Sim K Tb ρ (upd F D (.lst ys)) h H := by
  have up : ∀ b u, F b = some u → upd F D (.lst ys) b = some u := fun b u e => by rw [upd_ne (fun z => by rw [z, g.nf] at e; cases e)]; exact e
  refine ⟨fun b u e => ?_, s.len, s.nd, fun b hb => ?_, fun i o e => ?_, s.tb, fun P hP => ?_, ?_⟩
  · by_cases hb : b = D
    · subst hb
      rw [upd_same] at e
      cases e
      exact .inl g.at_
    · rw [upd_ne hb] at e
      exact s.le b u e
  · rw [upd_ne (fun z => g.nr (by rw [← z]; exact hb))]
    exact s.off b hb
  · obtain ⟨p, O, e1, e2, r⟩ := s.ob i o e
    refine ⟨p, O, e1, e2, ?_⟩
    cases r with
    | lst r => exact .lst (RVs.up (fun _ _ e => e) up _ _ r)
  · obtain ⟨ps, e, t⟩ := s.tb P hP
    rw [upd_ne (fun z => by rw [z, g.at_] at e; cases e)]
    exact s.tf P hP
  · refine ⟨s.lm.lt, fun p hp => ?_, s.lm.dj⟩
    obtain ⟨ps, e, _⟩ := s.lm.lt p hp
    rw [upd_ne (fun z => by rw [z, g.at_] at e; cases e)]
    exact s.lm.lf p hp
theorem Ext.froze (x : Ext ρ0 F0 H0 ρ F H) (n0 : H0 D = none) (nf : F D = none) : Ext ρ0 F0 H0 ρ (upd F D (.lst ys)) H := by
  refine ⟨x.new, fun p o e => ?_, fun p o e => ?_, x.keep, x.per⟩
  · have := x.up p o e
    rw [upd_ne (fun z => by rw [z, nf] at this; cases this)]
    exact this
  · by_cases hp : p = D
    · exact .inr (hp ▸ n0)
    · rw [upd_ne hp] at e
      exact x.fr p o e
/-- what is told at an earlier place, followed on -/
theorem post_at {r : Res α} {k : α → Hm → Res γ} {Q : δ → Hp → Prop} (p : post K Tb W S ρ0 F0 H0 σ (r.bind k) Q) (x : Ext ρ0 F0 H0 ρ F H) :
    post K Tb W R ρ F H σ r fun y H1 => ∃ ρ1 F1 h1 v, Ext ρ F H ρ1 F1 H1 ∧ Sim K Tb ρ1 F1 h1 H1 ∧ R ρ1 F1 v y ∧ post K Tb W S ρ0 F0 H0 σ (k v h1) Q := by
  cases r with
  | ok v h => exact fun ρ1 F1 H1 y e s r => ⟨ρ1, F1, h, v, e, s, r, p⟩
  | exc c h => exact fun ρ1 F1 H1 e s => p ρ1 F1 H1 (x.trans e) s
  | stuck => exact p
theorem post_wat {σ2 : L2.St} {r : Res α} {Q : β → Hp → Prop} (p : post K Tb W R ρ F H σ r Q) : post K Tb (WAt W σ) R ρ F H σ2 r Q := by
  cases r <;> exact p
end
def wipeE (e : En) : List Nat → En
  | [] => e
  | v :: vs => (wipeE e vs).set v .no
section
variable {K : PySem.W.Frag} {ρ : List Addr} {F H : Hp} {e : En} {σ : L2.St}
theorem RE.unset (r : RE K ρ F H e σ) (i : Nat) : RE K ρ F H (e.set i .no) (σ.set i none) := by
  have key : ∀ (j : Nat) s, (e.set i .no)[j]? = some s → s ≠ .no → j ≠ i ∧ e[j]? = some s := fun j s q n => by
    by_cases hj : j = i
    · subst hj
      have hl : j < e.length := by have := (List.getElem?_eq_some_iff.mp q).1; simpa using this
      rw [List.getElem?_set_self hl] at q
      exact absurd (Option.some.inj q).symm n
    · rw [List.getElem?_set_ne (Ne.symm hj)] at q
      exact ⟨hj, q⟩
  refine ⟨by simp [r.len], fun j v q => ?_, fun j xs q => ?_, fun j k xs ys p n q1 q2 s1 => ?_⟩
  · obtain ⟨hj, q⟩ := key j _ q (by simp)
    rw [List.getElem?_set_ne (Ne.symm hj)]
    exact r.val j v q
  · obtain ⟨hj, q⟩ := key j _ q (by simp)
    rw [List.getElem?_set_ne (Ne.symm hj)]
    exact r.own j xs q
  · obtain ⟨hj, q1⟩ := key j _ q1 (by simp)
    obtain ⟨hk, q2⟩ := key k _ q2 (by simp)
    rw [List.getElem?_set_ne (Ne.symm hj)] at s1
    rw [List.getElem?_set_ne (Ne.symm hk)]
    exact r.dis j k xs ys p n q1 q2 s1
theorem RE.wiped (r : RE K ρ F H e σ) : ∀ vs : List Nat, RE K ρ F H (wipeE e vs) (wipe σ vs)
  | [] => r
  | v :: vs => (RE.wiped r vs).unset v
end
theorem wipe_get {σ : L2.St} : ∀ {vs : List Nat} {i : Nat}, (wipe σ vs)[i]? = if i ∈ vs then (σ[i]?).map fun _ => none else σ[i]?
  | [], i => by simp [wipe]
  | v :: vs, i => by
    unfold wipe
    by_cases h : i = v
    · subst h
      rcases Nat.lt_or_ge i σ.length with hl | hl
      · rw [List.getElem?_set_self (by rw [wipe_length]; exact hl)]
        simp [List.getElem?_eq_getElem hl]
      · rw [List.getElem?_eq_none (by simpa [wipe_length] using hl)]
        simp [List.getElem?_eq_none hl]
    · rw [List.getElem?_set_ne (Ne.symm h), wipe_get]
      simp [h]
theorem wipe_idem {σ σ2 : L2.St} {vs ns : List Nat} (hs : ∀ i ∈ ns, i ∈ vs) (l : σ2.length = σ.length) (h : ∀ i, i ∉ ns → σ2[i]? = (wipe σ vs)[i]?) : wipe σ2 vs = wipe σ vs := by
  apply List.ext_getElem?
  intro i
  rw [wipe_get, wipe_get]
  by_cases hi : i ∈ vs
  · rw [if_pos hi, if_pos hi]
    rcases Nat.lt_or_ge i σ.length with hl | hl
    · simp [List.getElem?_eq_getElem hl, List.getElem?_eq_getElem (l ▸ hl)]
    · simp [List.getElem?_eq_none hl, List.getElem?_eq_none (l ▸ hl)]
  · rw [if_neg hi, if_neg hi, h i (fun z => hi (hs i z)), wipe_get, if_neg hi]

/-! ### [elt for target in iter if ..] -/
def compS (g : Gm) (mt : M Bool) (me : M PV) (src : Src) (e : En) : Nat → Nat → Hm → Res (List PV)
  | 0, _, _ => .stuck
  | n + 1, k, h => match src.get h k with
    | none => .stuck
    | some none => .ok [] h
    | some (some d) => match g d e with
      | none => .stuck
      | some e1 => (mt e1 h).bind fun b h1 => if b = true then (me e1 h1).bind fun v h2 => (compS g mt me src e n (k + 1) h2).bind fun vs h3 => .ok (v :: vs) h3 else compS g mt me src e n (k + 1) h1
def compL (g : Gm) (mt : M Bool) (me : M PV) (e : En) : List PV → Hm → Res (List PV)
  | [], h => .ok [] h
  | d :: ds, h => match g d e with
      | none => .stuck
      | some e1 => (mt e1 h).bind fun b h1 => if b = true then (me e1 h1).bind fun v h2 => (compL g mt me e ds h2).bind fun vs h3 => .ok (v :: vs) h3 else compL g mt me e ds h1
theorem compS_drop {g : Gm} {mt : M Bool} {me : M PV} {xs : List PV} {e : En} : ∀ (n k : Nat) (h : Hm), xs.length = k + n → compS g mt me (.row xs) e (n + 1) k h = compL g mt me e (xs.drop k) h
  | 0, k, h, l => by
    have e1 : xs[k]? = none := List.getElem?_eq_none_iff.mpr (by omega)
    have e2 : xs.drop k = [] := List.drop_eq_nil_of_le (by omega)
    rw [e2]
    simp only [compS, Src.get, e1, compL]
  | n + 1, k, h, l => by
    have hk : k < xs.length := by omega
    have e1 : xs[k]? = some xs[k] := List.getElem?_eq_getElem hk
    have ih := fun h => compS_drop (g := g) (mt := mt) (me := me) (xs := xs) (e := e) n (k + 1) h (by omega)
    rw [List.drop_eq_getElem_cons hk]
    rw [compS]
    simp only [Src.get, e1, compL, ih]
def compR (g : Gm) (mt : M Bool) (me : M PV) (e : En) (src : Src) (h : Hm) : Res (List PV) := match src with
  | .row xs => if xs.length ≤ 1000000 then compL g mt me e xs h else .stuck
  | .hp i => if (Src.hp i).len h ≤ 1000000 then compS g mt me (.hp i) e ((Src.hp i).len h + 1) 0 h else .stuck
theorem compR_eq {g : Gm} {mt : M Bool} {me : M PV} {e : En} {src : Src} {h : Hm} : compR g mt me e src h = if src.len h ≤ 1000000 then compS g mt me src e (src.len h + 1) 0 h else .stuck := by
  cases src with
  | row xs =>
    unfold compR
    show (if xs.length ≤ 1000000 then _ else _) = if xs.length ≤ 1000000 then compS g mt me (.row xs) e (xs.length + 1) 0 h else _
    rw [compS_drop xs.length 0 h (by simp)]
    rfl
  | hp i => rfl
theorem Res.bind_assoc {α β γ : Type} (r : Res α) (f : α → Hm → Res β) (g : β → Hm → Res γ) : (r.bind f).bind g = r.bind fun v h => (f v h).bind g := by cases r <;> rfl
def mLc (vs : List Nat) (mi : M Src) (g : Gm) (mt : M Bool) (me : M PV) : M PV := fun e h => (mi e h).bind fun src h1 => (compR g mt me (wipeE e vs) src h1).bind fun xs h2 => .ok (.lst xs) h2
/-- a clause's tests -/
structure PMTs (X : Cx) (Tb : TBs) (W : WX) (ifs : List Expr) (m : M Bool) : Prop where
  pt : PTs X ifs (rT X.K Tb W m)
def mYes : M Bool := fun _ h => .ok true h
section
variable {X : Cx} {Tb : TBs} {W : WX} {L : Addr} {elt tg iter : Expr} {ifs : List Expr} {scope : Scope} {own : List (Str × Nat)} {ns : List Nat} {pos : Pos} {mi : M Src} {g : Gm} {mt : M Bool} {me : M PV}
theorem pmts_nil : PMTs X Tb W [] mYes := ⟨⟨fun pins s σ H Q I q => pts_nil.run pins s σ H Q I (by
  obtain ⟨ρ, F, e, h, s, re, p⟩ := q
  exact post_ret p s rfl)⟩⟩
theorem pmts_one {c : Expr} (h : PMT X Tb W c mt) : PMTs X Tb W [c] mt := ⟨pts_one h.pt⟩
theorem tLc_of {σ : L2.St} {H : Hp} {Q : VK} (hns : ∀ i ∈ ns, i ∈ own.map (·.2)) (q : rE X.K Tb W (mLc (own.map (·.2)) mi g mt me) σ H Q) :
    tLcX (rI X.K Tb W mi) (rG X.K Tb g ns) (fun σ => rT X.K Tb (WAt W σ) mt) (fun σ => rE X.K Tb (WAt W σ) me) (own.map (·.2)) σ H Q := by
  generalize hvs : own.map (·.2) = vs at q hns
  obtain ⟨ρ, F, e, h, s, re, p⟩ := rd_bind (R := Wk X.K Tb) (S := RV X.K) (k := fun src e h1 => (compR g mt me (wipeE e vs) src h1).bind fun xs h2 => Res.ok (PV.lst xs) h2) q
  refine ⟨ρ, F, e, h, s, re, post_imp p fun J H1 ⟨ρ1, F1, e1, h1, src, s1, re1, wk, p1⟩ => ?_⟩
  intro D hD
  rw [compR_eq] at p1
  split at p1
  case isFalse => exact p1.elim
  rename_i hlen
  generalize hw : wipeE e1 vs = ew at p1
  have f1 := s1.fnone hD
  have r1 := s1.notin hD
  refine ⟨fun i m H => ∃ ρ F h ys acc, Ext ρ1 F1 H1 ρ F H ∧ Sim X.K Tb ρ F h H ∧ Gb ρ F H D ys ∧ RVs X.K ρ F acc ys ∧ acc.length ≤ i ∧ i + m ≤ src.len h1 + 1 ∧ post X.K Tb W (RV X.K) ρ1 F1 H1 σ ((compS g mt me src ew m i h).bind fun xs h2 => .ok (.lst (acc ++ xs)) h2) Q,
    ⟨src.len h1 + 1, ρ1, F1, h1, [], [], Ext.refl.gb hD, s1.gb f1 r1 (.inl hD), ⟨upd_same, f1, r1⟩, .nil, Nat.le_refl _, by omega, p1⟩, ?_⟩
  rintro i m H5 ⟨ρ5, F5, h5, ys, acc, x5, s5, g5, ra, hai, him, p5⟩
  cases m with
  | zero => exact p5.elim
  | succ m =>
    unfold compS at p5
    have wk5 : Wk X.K Tb ρ5 F5 src J := wk.to x5.toUp
    cases hd : src.get h5 i with
    | none => rw [hd] at p5; exact p5.elim
    | some d =>
      cases d with
      | none =>
        rw [hd] at p5
        refine .inl ⟨wk5.stop i ρ5 F5 h5 H5 Up.refl s5 hd, ?_⟩
        have x6 : Ext ρ1 F1 H1 ρ5 (upd F5 D (.lst ys)) H5 := x5.froze hD g5.nf
        refine p5 ρ5 _ H5 _ x6 (s5.froze g5) (.lst (.inl (.inl upd_same)) ?_)
        rw [List.append_nil]
        exact RVs.up (fun _ _ e => e) (fun b u e => by rw [upd_ne (fun z => by rw [z, g5.nf] at e; cases e)]; exact e) _ _ ra
      | some d =>
        rw [hd] at p5
        obtain ⟨g1, g2⟩ := wk5.go i d ρ5 F5 h5 H5 Up.refl s5 hd
        refine .inr ⟨g1, fun H => ∃ ρ F h ys acc, Ext ρ1 F1 H1 ρ F H ∧ Sim X.K Tb ρ F h H ∧ Gb ρ F H D ys ∧ RVs X.K ρ F acc ys ∧ acc.length ≤ i + 1 ∧ (i + 1) + m ≤ src.len h1 + 1 ∧ post X.K Tb W (RV X.K) ρ1 F1 H1 σ ((compS g mt me src ew m (i + 1) h).bind fun xs h2 => .ok (.lst (acc ++ xs)) h2) Q,
          fun H' w => ⟨m, Nat.lt_succ_self m, w⟩, fun x H' y => ?_⟩
        obtain ⟨F', x6, s6, rx⟩ := g2 x H' y
        cases hg1 : g d ew with
        | none => simp only [hg1] at p5; exact p5.elim
        | some e2 =>
          simp only [hg1] at p5
          have g6 := g5.ext x6
          have x16 := x5.trans x6
          have re6 : RE X.K ρ5 F' H' ew (wipe σ vs) := by
            rw [← hw]
            exact (re1.ext x16).wiped vs
          refine ⟨ρ5, F', ew, h5, d, e2, s6, re6, rx, hg1, fun σ8 re8 left => ⟨wipe_idem hns (left.2.2.trans (wipe_length σ vs)) left.2.1, ?_⟩⟩
          rw [Res.bind_assoc] at p5
          refine ⟨ρ5, F', e2, h5, s6, re8, post_imp (post_wat (post_at p5 x16)) fun b H9 ⟨ρ9, F9, h9, b', x9, s9, eb, p9⟩ => ?_⟩
          subst eb
          have g9 := g6.ext x9
          have x19 := x16.trans x9
          have ra9 : RVs X.K ρ9 F9 acc ys := x9.rvs (x6.rvs ra)
          cases b' with
          | false => exact ⟨ρ9, F9, h9, ys, acc, x19, s9, g9, ra9, Nat.le_succ_of_le hai, by omega, p9⟩
          | true =>
            simp only [if_true] at p9 ⊢
            rw [Res.bind_assoc] at p9
            refine ⟨ρ9, F9, e2, h9, s9, re8.ext x9, post_imp (post_wat (post_at p9 x19)) fun v H10 ⟨ρ10, F10, h10, v', x10, s10, rv, p10⟩ => ?_⟩
            have g10 := g9.ext x10
            have x110 := x19.trans x10
            have ra10 := x10.rvs ra9
            have hl : ys.length < sizeLine := Nat.lt_of_lt_of_le (by rw [← ra10.len]; omega : ys.length < 1000001 + 1) (by decide)
            refine ⟨ys, g10.at_, hl, ρ10, F10, h10, ys ++ [v], acc ++ [v'], x110.gb hD, s10.gb g10.nf g10.nr (.inr ⟨_, g10.at_⟩), ⟨upd_same, g10.nf, g10.nr⟩, ra10.app (.cons rv .nil), by simp; omega, by omega, ?_⟩
            rw [Res.bind_assoc] at p10
            simpa [Res.bind] using p10
theorem pm_lc (hc : X.calm = true) (hN : X.N.Nodup) (hi : PMI X Tb W tg iter mi) (ok : BlkOk X.N X.env.scope scope own) (tk : TakesL X L W) (fm : Frm X L) (hns : ∀ i ∈ ns, i ∈ own.map (·.2))
    (hg : AtBlk X scope fun Y => PMG Y Tb tg g ns) (ht : ∀ W', AtBlk X scope fun Y => TakesL Y L W' → PMTs Y Tb W' ifs mt) (he : ∀ W', AtBlk X scope fun Y => TakesL Y L W' → PM Y Tb W' elt me) (hs : ∀ x, foldedSetIterable iter X.env x = pure x := by intro _; rfl) :
    PM X Tb W (.ListComp elt [⟨tg, iter, ifs, 0⟩] scope pos) (mLc (own.map (·.2)) mi g mt me) :=
  ⟨PE.imp (pe_lcX hc hN hi.pi ok tk fm (fun s H C cl fp xe => (hg s H C cl fp xe).pg) (fun σ s H C cl fp xe t => (ht _ s H C cl fp xe t).pt) (fun σ s H C cl fp xe t => (he _ s H C cl fp xe t).pe) hs) fun σ H Q q => tLc_of hns q⟩
end
end PM
end
section
set_option Elab.async false
set_option linter.all false
set_option maxRecDepth 100000
set_option autoImplicit false
set_option maxHeartbeats 4000000
namespace PM
open PySem PySem.Spec PyProof.Rows L2 GenW

/-! ### the frame of a generator expression -/
abbrev gcx (X : Cx) (A : Around) (s : Shared) (H : Hp) (genv : Env) (fp : List Addr) (pn : List (Addr × Obj)) (xe : Value → Shared → Prop) : Cx :=
  { X with A := A, s_0 := s, H_0 := H, env := genv, outer := X.stack, stack := genv :: X.stack, ex := fp, fn := fun _ => false, pn := pn, xe := xe }
structure GenOk (N : List Str) (sc scope : Scope) (own : List (Str × Nat)) : Prop where
  blk : BlkOk N sc scope own
  nocell : ∀ y ∈ scope.names, y.2 ≠ .cell
  co : scope.isCoroutine = false
  dot : scope.names.lookup (".0" : Str) = some NameKind.local
section
variable {X : Cx} {pins : List (Addr × Obj)} {σ : L2.St} {H : Hp} {s : Shared} {scope : Scope} {own : List (Str × Nat)} {fp : List Addr} {genv : Env} {code : Value} {A : Around} {a : Addr} {go : Obj} {xe : Value → Shared → Prop}
theorem gen_start {h5 : Heap} {g5 : Array GenState} {tk : Nat} {m : Str → Option Value} (I : Inv X pins σ H s) (ok : GenOk X.N X.env.scope scope own) (hN : X.N.Nodup) (hfp : ∀ b ∈ fp, FpOk X pins H b ∧ b < s.heap.objs.size)
    (hge : genv = genEnv scope (cloFrom X.env.cells scope.names []) s.heap.objs.size code builtinsNs X.env) (hA1 : X.calm = true → A.handled = none) (hA2 : A.frames = some (genv :: X.stack))
    (hn : h5.Ns s.heap.objs.size m) (hk : ∀ b o, s.heap.get? b = some o → h5.get? b = some o) (ha : s.heap.objs.size < a) (hgo : h5.get? a = some go) (hgd : ∀ v, go.data ≠ .cell v) (hg : AllBare g5) :
    Inv (gcx X A s H genv fp [(a, go)] xe) [] (wipe σ (own.map (·.2))) H { s with heap := h5, gens := g5, toks := tk } := by
  have caps : ∀ y ∈ scope.names, y.2 = .free → ∃ c, X.env.cells.lookup y.1 = some c := fun y hy e => (ok.blk.free y hy e).elim (fun k => I.ok.has _ (.inl k)) fun k => I.ok.has _ (.inr k)
  have gL : genv.locals = s.heap.objs.size := by rw [hge]; rfl
  have gS : genv.scope = scope := by rw [hge]; rfl
  have gC : genv.cells = cloFrom X.env.cells scope.names [] := by rw [hge]; rfl
  have mem : ∀ {y c}, genv.cells.lookup y = some c → X.env.cells.lookup y = some c ∧ c < s.heap.objs.size := fun {y c} e => by
    rw [gC] at e
    rcases cloFrom_mem (PySem.mem_of_lookup e) with q | ⟨q1, rfl⟩
    · cases q
    · obtain ⟨c, hc⟩ := caps _ q1 rfl
      rw [hc]
      obtain ⟨w, z⟩ := I.cell _ _ hc
      exact ⟨rfl, z.lt⟩
  have look : ∀ {y}, scope.names.lookup y = some .free → ∃ c, genv.cells.lookup y = some c ∧ X.env.cells.lookup y = some c := fun {y} hl => by
    obtain ⟨c, e⟩ := mem_lookup (cloFrom_has (cells := X.env.cells) (acc := []) (PySem.mem_of_lookup hl))
    rw [← gC] at e
    exact ⟨c, e, (mem e).1⟩
  have stk : ∀ b ∈ frs X.stack, b < s.heap.objs.size := fun b hb => by
    obtain ⟨_, o, e, _⟩ := I.stack.mem hb
    exact Heap.lt_size e
  have okG : (gcx X A s H genv fp [(a, go)] xe).Ok := by
    refine ⟨I.ok.mod, by show genv.scope.kind = _; rw [gS]; exact ok.blk.kind, by show genv.globals = _; rw [hge]; exact I.ok.glob, by show genv.builtins = _; rw [hge]; rfl, by show _ ≤ genv.locals; rw [gL]; exact Nat.le_refl _,
      fun x y c e1 e2 => I.ok.inj x y c (mem e1).1 (mem e2).1, fun y hy => ?_, fun y c z => absurd z Bool.false_ne_true, hA1, hA2, .inr ⟨rfl, by show genv.frame = some genv.locals; rw [hge]; rfl⟩,
      fun b hb => ⟨by show b ≠ genv.locals; rw [gL]; exact Nat.ne_of_lt (hfp b hb).2, fun y c e => (hfp b hb).1.2.2.2.2.1 y c (mem e).1⟩, I.bs, Nat.le_trans I.ok.bsz I.sz, fun b o e hb => ?_, fun b hb z => ?_, I.stack, I.stkFree⟩
    · have key : ∀ k, genv.kindOf y = some k → (k = .cell ∨ k = .free) → ∃ c, genv.cells.lookup y = some c := fun k e q => by
        unfold Env.kindOf at e
        rw [gS] at e
        rcases q with rfl | rfl
        · exact absurd rfl (ok.nocell _ (PySem.mem_of_lookup e))
        · obtain ⟨c, e1, _⟩ := look e
          exact ⟨c, e1⟩
      exact hy.elim (fun q => key _ q (.inl rfl)) fun q => key _ q (.inr rfl)
    · rcases (hfp b hb).1.2.2.2.1 with z | z
      · exact I.ok.noex b o e z
      · exact absurd (Nat.lt_of_lt_of_le (Heap.lt_size e) (Nat.le_trans I.ok.bsz z)) (Nat.lt_irrefl _)
    · rcases List.mem_cons.mp (I.stkSub b z) with q | q
      · exact (hfp b hb).1.2.1 q
      · exact (hfp b hb).1.2.2.1 q
  refine ⟨okG, rfl, hg, Un.kept hk, ⟨m, by show h5.Ns genv.locals m; rw [gL]; exact hn, fun i y av e1 e2 e3 => ?_⟩, fun y c e => ?_, by show H genv.locals = none; rw [gL]; exact I.hok.fresh (Nat.le_refl _), fun y c e => I.freeC y c (mem e).1, fun p hp => ?_, I.hok.kept hk, by rw [wipe_length]; exact I.len⟩
  · obtain ⟨e2, hne⟩ := wipe_some e2
    have hfr : scope.names.lookup y = some .free := by
      have no : ∀ k, scope.names.lookup y = some k → (k = .local ∨ k = .cell) → False := fun k e q => by
        rcases ok.blk.own _ (PySem.mem_of_lookup e) q with e' | e'
        · obtain ⟨p, hp, hpy⟩ := List.mem_map.mp e'
          have e3 := ok.blk.ix p hp
          have hpy : p.1 = y := hpy
          rw [hpy] at e3
          exact hne (List.mem_map.mpr ⟨p, hp, nodup_ix hN e3 e1⟩)
        · exact e' (List.mem_of_getElem? e1)
      have e3 : Vis scope y := by rw [← gS]; exact e3
      rcases e3 with e3 | e3 | e3
      · exact (no _ e3 (.inl rfl)).elim
      · exact (no _ e3 (.inr rfl)).elim
      · exact e3
    obtain ⟨m', hn', hl⟩ := I.loc
    have hvis : Vis X.env.scope y := (ok.blk.free _ (PySem.mem_of_lookup hfr) rfl).elim (fun k => .inr (.inl k)) fun k => .inr (.inr k)
    obtain ⟨w, r, q⟩ := hl i y av e1 e2 hvis
    refine ⟨w, r, .inr ⟨.inr (by show genv.scope.names.lookup y = _; rw [gS]; exact hfr), ?_⟩⟩
    obtain ⟨c, h1, h2⟩ := look hfr
    rcases q with ⟨k, _⟩ | ⟨_, c', e', z⟩
    · have k : X.env.scope.names.lookup y = some .local := k
      rcases ok.blk.free _ (PySem.mem_of_lookup hfr) rfl with k' | k' <;> rw [show X.env.scope.names.lookup y = _ from k'] at k <;> cases k
    · rw [h2] at e'; cases e'
      exact ⟨c, h1, z.keeps hk⟩
  · obtain ⟨w, z⟩ := I.cell y c (mem e).1
    exact ⟨w, z.keeps hk⟩
  · have hp : p = (a, go) := by simpa using (show p ∈ [(a, go)] ++ [] from hp)
    subst hp
    refine ⟨hgo, I.hok.fresh (Nat.le_of_lt ha), by show a ≠ genv.locals; rw [gL]; exact Nat.ne_of_gt ha, fun hm => ?_, hgd⟩
    exact absurd (Nat.lt_trans (stk a hm) ha) (Nat.lt_irrefl _)
end
/-- what is behind an exception that has left the frame -/
def GErr (X : Cx) (L : Addr) (W : WX) (a : Addr) (go : Obj) (u : Value) (s' : Shared) : Prop := XL X L W u s' ∧ s'.heap.get? a = some go
abbrev gxe (X : Cx) (A : Around) (L : Addr) (W : WX) (genv : Env) (a : Addr) (go : Obj) : Value → Shared → Prop := fun u s' => wpAny (model X.prog X.w) A (leaving genv u) (fun _ s2 => GErr X L W a go u s2) (fun _ _ => False) s'
section
variable {X X1 : Cx} {W : WX} {L a : Addr} {pins : List (Addr × Obj)} {σ : L2.St} {A : Around} {genv : Env} {go : Obj}
theorem gen_takes (hfr : A.frames = some (genv :: X.stack)) (hf : genv.frame = some genv.locals) (hst : X1.stack = genv :: X.stack) (hL1 : X1.env.locals = genv.locals) (hpn : (a, go) ∈ X1.pn)
    (back : ∀ σ' H' sI pins', Inv X1 pins' σ' H' sI → Inv X pins σ H' sI) (fC : ∀ H', H' genv.locals = none → FpOk X pins H' genv.locals) (nC : genv.locals ∉ frs X.stack) (na : a ∉ frs X.stack) {W1 : WX} (hW : ∀ cls d σ' H', W1 cls d σ' H' → W cls d σ H') :
    ∀ u s', XL X1 genv.locals W1 u s' → gxe X A L W genv a go u s' := by
  rintro u s' ⟨e, B, sI, pins', σ', H', cls, d, rfl, I1, nb, up, sky, ne, os, ag, w⟩
  rw [hst] at nb sky
  have fin : ∀ h1, HandSPX.FlyingZ B X.stack e (Zc cls d) h1 → s'.heap.UpToSlots h1 → GErr X L W a go (.ref e) { s' with heap := h1 } := fun h1 fl up1 => by
    obtain ⟨G, gin, gout⟩ := restrict B fun b => !(b == genv.locals)
    have gB : ∀ b o, G.get? b = some o → b ≠ genv.locals ∧ B.get? b = some o := fun b o e => by
      by_cases hb : b = genv.locals
      · rw [gout b (by simp [hb])] at e; cases e
      · exact ⟨hb, (gin b (by simp [hb])).symm.trans e⟩
    have gn : ∀ b, B.get? b = none → G.get? b = none := fun b e => by
      cases q : G.get? b with
      | none => rfl
      | some o => rw [(gB b o q).2] at e; cases e
    obtain ⟨J, jin, jout⟩ := restrict sI.heap fun b => !(b == genv.locals)
    have jI : ∀ b o, J.get? b = some o → b ≠ genv.locals ∧ sI.heap.get? b = some o := fun b o e => by
      by_cases hb : b = genv.locals
      · rw [jout b (by simp [hb])] at e; cases e
      · exact ⟨hb, (jin b (by simp [hb])).symm.trans e⟩
    obtain ⟨ea, _, eaL, _, _⟩ := I1.pin (a, go) (List.mem_append_left _ hpn)
    have naC : a ≠ genv.locals := by rw [← hL1]; exact eaL
    have fr0 : H' genv.locals = none := by rw [← hL1]; exact I1.free
    obtain ⟨f0, f1, f2, f3, f4, f5⟩ := fC H' fr0
    have I0 : Inv X pins σ H' { sI with heap := J } := (back _ _ _ _ I1).turned (t' := sI.toks) (it := genv.locals) (fun b o hb e => (jin b (by simp [hb])).trans e) f0 f1 f3 f4 f5
    have inS : ∀ b, b ∈ frs (genv :: X.stack) → b = genv.locals ∨ b ∈ frs X.stack := fun b hb => by
      obtain ⟨en, he, q⟩ := List.mem_filterMap.mp hb
      rcases List.mem_cons.mp he with z | z
      · subst z; rw [hf] at q; exact .inl (Option.some.inj q).symm
      · exact .inr (List.mem_filterMap.mpr ⟨en, z, q⟩)
    have ba : B.get? a = some go := nb a go ea fun hm => (inS a hm).elim naC na
    obtain ⟨k1, k2, k3, oe, vs, T, oT, ts, he, hz, hd, hv1, hnT, hr⟩ := fl
    refine ⟨⟨e, G, { sI with heap := J }, pins, σ, H', cls, d, rfl, I0, fun b o q hb => ?_, fun b o q hd' => ?_, .inr (.inl ⟨fun b o q => k1 b o (gB b o q).2, gn e k2, funFrames_none k3 fun b hb => gn b (k3.mem hb).1, oe, vs, T, oT, ts, he, hz, hd, hv1, gn T hnT, hr⟩), ne, os, ag, hW _ _ _ _ w⟩, k1 a go ba⟩
    · obtain ⟨n1, e1⟩ := jI b o q
      exact (gin b (by simp [n1])).trans (nb b o e1 fun hm => (inS b hm).elim n1 hb)
    · obtain ⟨n1, e1⟩ := jI b o q
      exact (up.trans up1) b o e1 hd'
  show wpAny _ _ (leaving genv (.ref e)) _ _ _
  rcases sky with ⟨hB, hn, hl, oe, vs, h0, hz, hd, h1⟩ | fl | hh
  · exact HandSPX.leaving_firstZ Zc.steady hfr hl hf h0 hB hn hd h1 hz fin
  · exact HandSPX.leaves_onZ Zc.steady hfr hf fl fin
  · exact HandSPX.leaves_heldZ hf hh fin
end
end PM
end
section
set_option Elab.async false
set_option linter.all false
set_option maxRecDepth 100000
set_option autoImplicit false
set_option maxHeartbeats 4000000
namespace PM
open PySem PySem.Spec PyProof.Rows L2 GenW

/-- the turns of a generator expression: V by the turn and a measure; what an item asks (Yld), what the end asks -/
abbrev Yw := V → Hp → (Hp → Prop) → Prop
def Turns (J : It) (g : TG) (tt : TT) (te : TE) (vs : List Nat) (σ : L2.St) (V : Nat → Nat → Hp → Prop) (Stop : Hp → Prop) (Yl : Yw) : Prop := ∀ i m H, V i m H →
  (J.stop i H ∧ Stop H) ∨ (J.go i H ∧ ∃ N : Hp → Prop, (∀ H', N H' → ∃ m', m' < m ∧ V (i + 1) m' H') ∧ ∀ x H', J.yld i H x H' → g x (wipe σ vs) H' fun σ2 H2 => wipe σ2 vs = wipe σ vs ∧ tt σ2 H2 fun b H3 =>
    if b = true then te σ2 H3 fun y H4 => Yl y H4 N else N H3)
def GEnd (Xg : Cx) (Stop : Hp → Prop) (Er : Value → Shared → Prop) : GenEnd := fun n s₀ r s1 => ((r = .ok (.ret .none) ∨ r = .ok .next) ∧ ∃ σ8 H', Inv Xg [] σ8 H' s1 ∧ Stop H') ∨ ∃ e, r = .error e ∧ Er e s1
def GYl (Xg : Cx) (Yl : Yw) : Protocol := fun n s₀ v s1 kap => ∃ p8 σ8 x H' N, RelV x v ∧ Inv Xg p8 σ8 H' s1 ∧ Yl x H' N ∧ ∀ s2 H2, Inv Xg p8 σ8 H2 s2 → N H2 → kap (.send .none) s2
abbrev GE (elt tg iter : Expr) (ifs : List Expr) (scope : Scope) (pos : Pos) : Expr := .GeneratorExp elt [⟨tg, iter, ifs, 0⟩] scope pos
section
variable {Xg : Cx} {A : Around} {elt tg iter : Expr} {ifs : List Expr} {scope : Scope} {pos : Pos} {it : Addr} {fp : List Addr} {tn : Nat → Heap → Prop} {J : It} {g : TG} {tt : TT} {te : TE} {vs : List Nat} {σ : L2.St} {V : Nat → Nat → Hp → Prop} {Stop : Hp → Prop} {Yl : Yw} {Er : Value → Shared → Prop}
theorem gen_loop (hA : A.over (.compLoop (GE elt tg iter ifs scope pos) 0 (.ref it) .none Xg.env) [] = Xg.A) (hc : Xg.calm = true) (hco : Xg.env.scope.isCoroutine = false) (hfp : Xg.ex = fp) (hpn : ∀ b ∈ fp, ∀ p ∈ Xg.pn, p.1 ≠ b)
    (T : Turn Xg.prog Xg.w Xg.K tg J fp it tn) (pg : PG Xg tg g) (pt : PTs Xg ifs tt) (pe : PE Xg elt te) (turn : Turns J g tt te vs σ V Stop Yl)
    (hxe : ∀ u s', Xg.xe u s' → wpAny (model Xg.prog Xg.w) Xg.A (leaving Xg.env u) (fun _ s2 => Er u s2) (fun _ _ => False) s') :
    ∀ (m i n : Nat) (s₀ s : Shared) (H : Hp), m < n → Inv Xg [] (wipe σ vs) H s → tn i s.heap → (∀ b ∈ fp, H b = none) → V i m H →
      Seg (model Xg.prog Xg.w) A (GEnd Xg Stop Er) (GYl Xg Yl) n s₀ (.compLoop (GE elt tg iter ifs scope pos) 0 (.ref it) .none Xg.env) ((model Xg.prog Xg.w).den (.compLoop (GE elt tg iter ifs scope pos) 0 (.ref it) .none Xg.env)) [] s := by
  have stat : ∀ {σ' : L2.St} {H' : Hp} {s' : Shared}, Inv Xg [] σ' H' s' → (∀ b ∈ fp, H' b = none) → ∀ b ∈ fp, FpOk Xg [] H' b := fun J1 hn b hb => by
    have hb' : b ∈ Xg.ex := by rw [hfp]; exact hb
    exact ⟨hn b hb, (J1.ok.exf b hb').1, J1.ok.exfs b hb', .inl hb', fun x c e => (J1.ok.exf b hb').2 x c e, fun p hp => hpn b hb p (by simpa using hp)⟩
  intro m
  induction m using Nat.strongRecOn with
  | ind m ih =>
    intro i n s₀ s H hmn I st nf v
    have ee : ∀ (n : Nat) (x : Value) (s' : Shared), Xg.xe x s' → Seg (model Xg.prog Xg.w) A (GEnd Xg Stop Er) (GYl Xg Yl) n s₀ (.compLoop (GE elt tg iter ifs scope pos) 0 (.ref it) .none Xg.env)
        ((leaving Xg.env x).wrap (fun _ => .raise x) .raise id id) [] s' := fun n x s' hx => by
      refine seg_wrap ?_
      rw [hA]
      exact wpAny_mono (hxe x s' hx) (fun _ s2 q => seg_end (.error x) (.inr ⟨x, rfl, q⟩)) fun _ _ z => z.elim
    show Seg _ A _ _ n s₀ _ ((compTurn (GE elt tg iter ifs scope pos) 0 (.ref it) .none Xg.env).onRaise (leaving Xg.env)) [] s
    rw [compTurn_gen, Sem.onRaise_eq_wrap]
    refine seg_bind_wrap (wpAny_standAt ?_)
    rcases turn i m H v with ⟨stop, q⟩ | ⟨go, N, hN, step⟩
    · refine seg_bind_wrap ?_
      rw [hA]
      refine wpAny_mono (T.done Xg rfl rfl rfl hc i [] s _ H Xg.xe I (stat I nf) st stop) (fun r s2 ⟨hr, I2⟩ => ?_) fun x s2 hx => ?_
      · subst hr
        exact seg_end (.ok .next) (.inl ⟨.inr rfl, _, H, I2, q⟩)
      · have := ee n x s2 hx
        first
          | exact this
          | (rw [← Sem.bind_eq_wrap] at this; exact this)
    · refine seg_bind_wrap ?_
      rw [hA]
      have ex : ∀ (n : Nat) (x : Value) (s2 : Shared), Xg.xe x s2 → Seg (model Xg.prog Xg.w) A (GEnd Xg Stop Er) (GYl Xg Yl) n s₀ (.compLoop (GE elt tg iter ifs scope pos) 0 (.ref it) .none Xg.env)
          ((leaving Xg.env x).bind fun _ => .raise x) [] s2 := fun n x s2 hx => by
        have := ee n x s2 hx
        rw [← Sem.bind_eq_wrap] at this
        exact this
      refine wpAny_mono (T.item Xg rfl rfl rfl hc i [] s _ H Xg.xe I (stat I nf) st go) (fun r s2 ⟨u, hr, h2⟩ => ?_) fun x s2 hx => ex n x s2 hx
      subst hr
      refine seg_bind_wrap ?_
      rw [hA]
      refine wpAny_mono h2 (fun _ s3 ⟨x, H3, I3, r3, y3, st3, n3⟩ => ?_) fun x s2 hx => ex n x s2 hx
      have I3p := I3.pinned (stat I3 n3) (T.obj _ _ st3)
      refine seg_bind_wrap ?_
      rw [hA]
      refine wpAny_mono (pg.run _ s3 _ H3 x u _ I3p r3 (step x H3 y3)) (fun _ s4 ⟨σ4, H4, I4, hw, q4⟩ => ?_) fun x s2 hx => ex n x s2 hx
      refine seg_bind_wrap ?_
      rw [hA]
      refine wpAny_mono (pt.run _ s4 σ4 H4 _ I4 q4) (fun b s5 ⟨H5, I5, q5⟩ => ?_) fun x s2 hx => ex n x s2 hx
      have fin : ∀ {s' : Shared} {H' : Hp} (s₁ : Shared) (n1 : Nat), m ≤ n1 → Inv Xg ([] ++ pinsAt fp s3.heap) σ4 H' s' → N H' →
          Seg (model Xg.prog Xg.w) A (GEnd Xg Stop Er) (GYl Xg Yl) n1 s₁ (.compLoop (GE elt tg iter ifs scope pos) 0 (.ref it) .none Xg.env) ((model Xg.prog Xg.w).den (.compLoop (GE elt tg iter ifs scope pos) 0 (.ref it) .none Xg.env)) [] s' := fun {s' H'} s₁ n1 hn1 I' nx => by
        obtain ⟨m', hm, w'⟩ := hN H' nx
        have pn : ∀ b ∈ fp, ∀ o, s3.heap.get? b = some o → s'.heap.get? b = some o ∧ H' b = none := fun b hb o e => by
          have q := I'.pin (b, o) (List.mem_append_right _ (List.mem_append_right _ (mem_pinsAt hb e)))
          exact ⟨q.1, q.2.1⟩
        refine ih m' hm (i + 1) n1 s₁ s' H' (by omega) ((I'.unpinned (pins := [])).weak (by rw [← hw, wipe_length]) fun j v e => ?_) (T.keep _ _ _ st3 fun b hb o e => (pn b hb o e).1) (fun b hb => ?_) w'
        · rw [← hw] at e
          exact (wipe_some e).1
        · obtain ⟨o, e, _⟩ := T.obj _ _ st3 b hb
          exact (pn b hb o e).2
      cases b with
      | false =>
        simp only [Bool.false_eq_true, if_false] at q5 ⊢
        exact seg_again rfl (fin s₀ n (by omega) I5 q5)
      | true =>
        simp only [if_true] at q5 ⊢
        have hy : ∀ v, yieldOut Xg.env v = yieldValue v := fun v => by simp only [yieldOut, hco, Bool.false_eq_true, if_false]
        simp only [hy]
        rw [Sem.bind_eq_wrap', Sem.bind_eq_wrap', Sem.wrap_wrap, Sem.wrap_wrap]
        refine seg_wrap ?_
        rw [hA]
        refine wpAny_mono (pe.run _ s5 σ4 H5 _ I5 q5) (fun y s6 ⟨yv, H6, I6, r6, q6⟩ => ?_) fun x s2 hx => ?_
        · obtain ⟨k, rfl⟩ : ∃ k, n = k + 1 := by
            cases n with
            | zero => omega
            | succ k => exact ⟨k, rfl⟩
          refine seg_at (seg_yield rfl rfl rfl ⟨_, σ4, yv, H6, N, r6, I6, q6, fun s7 H7 I7 n7 => ?_⟩)
          exact seg_again rfl (fin s7 k (by omega) I7 n7)
        · have := ex n x s2 hx
          first
            | exact this
            | (rw [Sem.bind_eq_wrap] at this; exact this)
end
end PM
end
section
set_option Elab.async false
set_option linter.all false
set_option maxRecDepth 100000
set_option autoImplicit false
set_option maxHeartbeats 4000000
namespace PM
open PySem PySem.Spec PyProof.Rows L2 GenW

theorem inv_gens {X : Cx} {pins : List (Addr × Obj)} {σ : L2.St} {H : Hp} {s : Shared} {g' : Array GenState} (I : Inv X pins σ H s) (h : AllBare g') : Inv X pins σ H { s with gens := g' } :=
  ⟨I.ok, I.os, h, I.base, I.loc, I.cell, I.free, I.freeC, I.pin, I.hok, I.len⟩
/-- g (at number gi) is asked on wherever N holds -/
def Wake (Xg : Cx) (A : Around) (Stop : Hp → Prop) (Yl : Yw) (Er : Value → Shared → Prop) (gs : GenState) (n : Nat) (p8 : List (Addr × Obj)) (σ8 : L2.St) (N : Hp → Prop) : Prop :=
  ∀ s2 H2, Inv Xg p8 σ8 H2 s2 → N H2 → gs.Goes (model Xg.prog Xg.w) A (GEnd Xg Stop Er) (GYl Xg Yl) n (.send .none) s2
section
variable {Xg : Cx} {A : Around} {Stop : Hp → Prop} {Yl : Yw} {Er : Value → Shared → Prop} {gs : GenState} {a : Addr} {gi n : Nat} {go : Obj} {p8 : List (Addr × Obj)} {σ8 : L2.St} {N : Hp → Prop} {H : Hp} {s : Shared}
theorem pull {Q : Option Value → Shared → Prop} {E : Value → Shared → Prop} (hgo : ∀ h : Heap, h.get? a = some go → h.IsGen a gi) (hpn : (a, go) ∈ Xg.pn) (hh : A.handled = none) (hd : A.depth < recursionLimit) (I : Inv Xg p8 σ8 H s) (hgs : s.gens[gi]? = some gs) (nH : N H) (hw : Wake Xg A.in1 Stop Yl Er gs n p8 σ8 N)
    (hY : ∀ p σ' x v H' N' gs' s', RelV x v → Inv Xg p σ' H' s' → Yl x H' N' → s'.gens[gi]? = some gs' → (∀ s2 H2, Inv Xg p σ' H2 s2 → N' H2 → 1 ≤ n) → Wake Xg A.in1 Stop Yl Er gs' (n - 1) p σ' N' → Q (some v) s')
    (hP : ∀ σ' H' s', Inv Xg [] σ' H' s' → Stop H' → Q none s')
    (hE : ∀ e s', Er e s' → s'.heap.get? a = some go ∧ NotStop (model Xg.prog Xg.w) e s'.heap ∧ E e (s'.setGen gi .finished)) : wpAny (model Xg.prog Xg.w) A (pyNext (.ref a)) Q E s := by
  have hlt : gi < s.gens.size := (Array.getElem?_eq_some_iff.mp hgs).1
  have ig : ∀ {p σ' H' s'}, Inv Xg p σ' H' s' → s'.heap.IsGen a gi := fun I' => hgo _ (I'.pin (a, go) (List.mem_append_left _ hpn)).1
  refine wpAny_gsz (n := gi + 1) hlt ?_
  refine next_genG (F := fun _ _ s1 => ∃ σ8 H', Inv Xg [] σ8 H' s1 ∧ Stop H') (Er := Er) hh I.nolimit hd (ig I) hgs (hw _ H (inv_gens I (allBare_setGen I.bare rfl)) nH) (fun v s1 gs' hb hv => ?_) (fun s1 hp h' hk => ?_) fun e s1 he => ?_
  · obtain ⟨p, σ', x, H', N', r, I1, y, kap⟩ := hv
    intro hsz
    have hg1 : (s1.setGen gi gs').gens[gi]? = some gs' := setGen_at (show gi + 1 ≤ s1.gens.size by rw [setGen_size] at hsz; exact hsz)
    refine hY p σ' x v H' N' gs' _ r (inv_gens I1 (allBare_setGen I1.bare hb)) y hg1 (fun s2 H2 I2 n2 => ?_) fun s2 H2 I2 n2 => ?_
    · have q := kap s2 H2 I2 n2
      cases n with
      | zero => exact q.elim
      | succ n => omega
    · have q := kap s2 H2 I2 n2
      cases n with
      | zero => exact q.elim
      | succ n => exact q
  · obtain ⟨σ8, H', I1, q⟩ := hp
    intro _
    have I2 : Inv Xg [] σ8 H' { s1 with heap := h' } := I1.kept (t' := s1.toks) hk
    exact hP σ8 H' _ (inv_gens I2 (allBare_setGen I1.bare rfl)) q
  · obtain ⟨h1, h2, h3⟩ := hE e s1 he
    exact ⟨hgo _ h1, h2, fun _ => h3⟩
/-! ### any, all -/
def yAny (QT : Hp → Prop) : Yw := fun y H N => ∃ b, y = .bl b ∧ if b = true then QT H else N H
def yAll (QF : Hp → Prop) : Yw := fun y H N => ∃ b, y = .bl b ∧ if b = true then N H else QF H
theorem any_loop {QT QF : Hp → Prop} {R : Result → Shared → Prop} (hgo : ∀ h : Heap, h.get? a = some go → h.IsGen a gi) (hpn : (a, go) ∈ Xg.pn) (hh : A.handled = none) (hd : A.depth < recursionLimit)
    (hT : ∀ p σ' H' s', Inv Xg p σ' H' s' → QT H' → R (.ok (.ret (.bool true))) s') (hF : ∀ p σ' H' s', Inv Xg p σ' H' s' → QF H' → R (.ok (.ret (.bool false))) s')
    (hE : ∀ e s', Er e s' → s'.heap.get? a = some go ∧ NotStop (model Xg.prog Xg.w) e s'.heap ∧ R (.error e) (s'.setGen gi .finished)) :
    ∀ (n : Nat) (p8 : List (Addr × Obj)) (σ8 : L2.St) (N : Hp → Prop) (H : Hp) (s : Shared) (gs : GenState), Inv Xg p8 σ8 H s → s.gens[gi]? = some gs → N H → Wake Xg A.in1.in1 QF (yAny QT) Er gs n p8 σ8 N →
      codeAny (model Xg.prog Xg.w) A (.builtin "any.loop" ⟨[.ref a], []⟩) R s := by
  intro n
  induction n with
  | zero =>
    intro p8 σ8 N H s gs I hgs nH hw
    refine codeAny_builtin F.entry_any_loop ?_
    rw [Around.under_plainId F.plain_any_loop _]
    show wpAny _ A.in1 (pyNext (.ref a) >>= _) _ _ s
    refine wpAny_bind (pull (A := A.in1) hgo hpn hh hd I hgs nH hw (fun p σ' x v H' N' gs' s' r I1 y hg1 one w1 => ?_) (fun σ' H' s' I1 q => wpAny_bind (wpAny_rule (wpAny_pure (hF _ _ _ _ I1 q)))) hE)
    obtain ⟨b, rfl, y⟩ := y
    cases r
    refine wpAny_bind (wpAny_holding (wpAny_truthy_bool ?_))
    refine wpAny_bind (wpAny_letGo ?_)
    cases b with
    | true =>
      simp only [if_true] at y ⊢
      exact wpAny_bind (wpAny_rule (wpAny_pure (hT _ _ _ _ I1 y)))
    | false =>
      simp only [Bool.false_eq_true, if_false] at y ⊢
      exact absurd (one _ _ I1 y) (by omega)
  | succ n ih =>
    intro p8 σ8 N H s gs I hgs nH hw
    refine codeAny_builtin F.entry_any_loop ?_
    rw [Around.under_plainId F.plain_any_loop _]
    show wpAny _ A.in1 (pyNext (.ref a) >>= _) _ _ s
    refine wpAny_bind (pull (A := A.in1) hgo hpn hh hd I hgs nH hw (fun p σ' x v H' N' gs' s' r I1 y hg1 one w1 => ?_) (fun σ' H' s' I1 q => wpAny_bind (wpAny_rule (wpAny_pure (hF _ _ _ _ I1 q)))) hE)
    obtain ⟨b, rfl, y⟩ := y
    cases r
    refine wpAny_bind (wpAny_holding (wpAny_truthy_bool ?_))
    refine wpAny_bind (wpAny_letGo ?_)
    cases b with
    | true =>
      simp only [if_true] at y ⊢
      exact wpAny_bind (wpAny_rule (wpAny_pure (hT _ _ _ _ I1 y)))
    | false =>
      simp only [Bool.false_eq_true, if_false] at y ⊢
      exact wpAny_pure ⟨plainId_quiet F.plain_any_loop _, ih p σ' N' H' s' gs' I1 hg1 y w1⟩
theorem all_loop {QT QF : Hp → Prop} {R : Result → Shared → Prop} (hgo : ∀ h : Heap, h.get? a = some go → h.IsGen a gi) (hpn : (a, go) ∈ Xg.pn) (hh : A.handled = none) (hd : A.depth < recursionLimit)
    (hT : ∀ p σ' H' s', Inv Xg p σ' H' s' → QT H' → R (.ok (.ret (.bool true))) s') (hF : ∀ p σ' H' s', Inv Xg p σ' H' s' → QF H' → R (.ok (.ret (.bool false))) s')
    (hE : ∀ e s', Er e s' → s'.heap.get? a = some go ∧ NotStop (model Xg.prog Xg.w) e s'.heap ∧ R (.error e) (s'.setGen gi .finished)) :
    ∀ (n : Nat) (p8 : List (Addr × Obj)) (σ8 : L2.St) (N : Hp → Prop) (H : Hp) (s : Shared) (gs : GenState), Inv Xg p8 σ8 H s → s.gens[gi]? = some gs → N H → Wake Xg A.in1.in1 QT (yAll QF) Er gs n p8 σ8 N →
      codeAny (model Xg.prog Xg.w) A (.builtin "all.loop" ⟨[.ref a], []⟩) R s := by
  intro n
  induction n with
  | zero =>
    intro p8 σ8 N H s gs I hgs nH hw
    refine codeAny_builtin F.entry_all_loop ?_
    rw [Around.under_plainId F.plain_all_loop _]
    show wpAny _ A.in1 (pyNext (.ref a) >>= _) _ _ s
    refine wpAny_bind (pull (A := A.in1) hgo hpn hh hd I hgs nH hw (fun p σ' x v H' N' gs' s' r I1 y hg1 one w1 => ?_) (fun σ' H' s' I1 q => wpAny_bind (wpAny_rule (wpAny_pure (hT _ _ _ _ I1 q)))) hE)
    obtain ⟨b, rfl, y⟩ := y
    cases r
    refine wpAny_bind (wpAny_holding (wpAny_truthy_bool ?_))
    refine wpAny_bind (wpAny_letGo ?_)
    cases b with
    | true =>
      simp only [if_true] at y ⊢
      exact absurd (one _ _ I1 y) (by omega)
    | false =>
      simp only [Bool.false_eq_true, if_false] at y ⊢
      exact wpAny_bind (wpAny_rule (wpAny_pure (hF _ _ _ _ I1 y)))
  | succ n ih =>
    intro p8 σ8 N H s gs I hgs nH hw
    refine codeAny_builtin F.entry_all_loop ?_
    rw [Around.under_plainId F.plain_all_loop _]
    show wpAny _ A.in1 (pyNext (.ref a) >>= _) _ _ s
    refine wpAny_bind (pull (A := A.in1) hgo hpn hh hd I hgs nH hw (fun p σ' x v H' N' gs' s' r I1 y hg1 one w1 => ?_) (fun σ' H' s' I1 q => wpAny_bind (wpAny_rule (wpAny_pure (hT _ _ _ _ I1 q)))) hE)
    obtain ⟨b, rfl, y⟩ := y
    cases r
    refine wpAny_bind (wpAny_holding (wpAny_truthy_bool ?_))
    refine wpAny_bind (wpAny_letGo ?_)
    cases b with
    | true =>
      simp only [if_true] at y ⊢
      exact wpAny_pure ⟨plainId_quiet F.plain_all_loop _, ih p σ' N' H' s' gs' I1 hg1 y w1⟩
    | false =>
      simp only [Bool.false_eq_true, if_false] at y ⊢
      exact wpAny_bind (wpAny_rule (wpAny_pure (hF _ _ _ _ I1 y)))
/-! ### into a list at S -/
def yPut (S : Addr) : Yw := fun y H N => ∃ ys, H S = some (.lst ys) ∧ ys.length < sizeLine ∧ N (upd H S (.lst (ys ++ [y])))
theorem put_loop {S : Addr} {res : Value} {QE : Hp → Prop} {R : Result → Shared → Prop} (hgo : ∀ h : Heap, h.get? a = some go → h.IsGen a gi) (hpn : (a, go) ∈ Xg.pn) (hh : A.handled = none) (hd : A.depth < recursionLimit)
    (hQ : ∀ p σ' H' s', Inv Xg p σ' H' s' → QE H' → R (.ok (.ret res)) s')
    (hE : ∀ e s', Er e s' → s'.heap.get? a = some go ∧ NotStop (model Xg.prog Xg.w) e s'.heap ∧ R (.error e) (s'.setGen gi .finished)) :
    ∀ (n : Nat) (p8 : List (Addr × Obj)) (σ8 : L2.St) (N : Hp → Prop) (H : Hp) (s : Shared) (gs : GenState), Inv Xg p8 σ8 H s → s.gens[gi]? = some gs → N H → Wake Xg A.in1.in1 QE (yPut S) Er gs n p8 σ8 N →
      codeAny (model Xg.prog Xg.w) A (.builtin "list.extend.loop" ⟨[.ref S, .ref a, res], []⟩) R s := by
  have put : ∀ {p σ' x v H' N' s'} {Q : Unit → Shared → Prop} {E : Value → Shared → Prop} {A' : Around}, RelV x v → Inv Xg p σ' H' s' → yPut S x H' N' → (∀ H2 s2, Inv Xg p σ' H2 s2 → N' H2 → s2.gens = s'.gens → Q () s2) → wpAny (model Xg.prog Xg.w) A' (updateSeq S (·.push v)) Q E s' := by
    intro p σ' x v H' N' s' Q E A' r I1 ⟨ys, hS, hl, nx⟩ hq
    obtain ⟨hz, its, c, ri, e⟩ := I1.hok S _ hS
    have hlen := ri.length
    refine wpAny_updateSeq e rfl ?_ (by simp only [List.size_toArray]; omega) (by simp only [Array.size_push, List.size_toArray]; omega)
    have e2 := Heap.get?_update_self (Obj.mapSeq (·.push v)) e rfl
    have ob : ObjOk Xg.prog Xg.w (upd H' S (.lst (ys ++ [x]))) (s'.heap.update S (Obj.mapSeq (·.push v))) S (.lst (ys ++ [x])) := by
      refine ⟨by rw [List.length_append]; exact hl, its ++ [v], c + 1, ri.append (.cons r .nil), ?_⟩
      rw [e2]
      simp [Obj.mapSeq]
    exact hq _ _ (I1.write (t' := s'.toks) (x := S) (e := S) (by rw [hS]; trivial) (.inl rfl) (fun b u hb q => (Heap.get?_update_other _ _ (Ne.symm hb)).trans q) ⟨_, e2⟩ ob) nx rfl
  intro n
  induction n with
  | zero =>
    intro p8 σ8 N H s gs I hgs nH hw
    refine codeAny_builtin F.entry_extend_loop ?_
    rw [Around.under_plainId F.plain_extend_loop _]
    show wpAny _ A.in1 (pyNext (.ref a) >>= _) _ _ s
    refine wpAny_bind (pull (A := A.in1) hgo hpn hh hd I hgs nH hw (fun p σ' x v H' N' gs' s' r I1 y hg1 one w1 => ?_) (fun σ' H' s' I1 q => wpAny_pure (hQ _ _ _ _ I1 q)) hE)
    refine wpAny_bind (put r I1 y fun H2 s2 I2 n2 hg2 => ?_)
    exact absurd (one _ _ I2 n2) (by omega)
  | succ n ih =>
    intro p8 σ8 N H s gs I hgs nH hw
    refine codeAny_builtin F.entry_extend_loop ?_
    rw [Around.under_plainId F.plain_extend_loop _]
    show wpAny _ A.in1 (pyNext (.ref a) >>= _) _ _ s
    refine wpAny_bind (pull (A := A.in1) hgo hpn hh hd I hgs nH hw (fun p σ' x v H' N' gs' s' r I1 y hg1 one w1 => ?_) (fun σ' H' s' I1 q => wpAny_pure (hQ _ _ _ _ I1 q)) hE)
    refine wpAny_bind (put r I1 y fun H2 s2 I2 n2 hg2 => ?_)
    exact wpAny_pure ⟨plainId_quiet F.plain_extend_loop _, ih p σ' N' H2 s2 gs' I2 (by rw [hg2]; exact hg1) n2 w1⟩
end
end PM
end
section
set_option Elab.async false
set_option linter.all false
set_option maxRecDepth 100000
set_option autoImplicit false
set_option maxHeartbeats 4000000
namespace PM
open PySem PySem.Spec PyProof.Rows L2 GenW

/-- a generator that has not begun, in the state s5 -/
structure GReady (X : Cx) (pins : List (Addr × Obj)) (σ : L2.St) (H2 : Hp) (vs : List Nat) (elt tg iter : Expr) (ifs : List Expr) (scope : Scope) (pos : Pos) (s4 : Shared) (fp : List Addr) (it : Addr) (tn : Nat → Heap → Prop) (J : It) (genv : Env) (a : Addr) (gi : Nat) (go : Obj) (s5 : Shared) : Prop where
  gen : ∀ h : Heap, h.get? a = some go → h.IsGen a gi
  new : s5.gens[gi]? = some (.fresh (.compStart (GE elt tg iter ifs scope pos) 0 (.ref it) .none genv))
  gl : genv.locals = s4.heap.objs.size
  gf : genv.frame = some genv.locals
  gc : genv.scope = scope
  ge : ∃ cl code, genv = genEnv scope cl s4.heap.objs.size code builtinsNs X.env
  T : Turn X.prog X.w X.K tg J fp it tn
  tn0 : tn 0 s5.heap
  fpn : ∀ b ∈ fp, H2 b = none ∧ b ≠ a
  sz : s4.heap.objs.size < a
  al : a < s5.heap.objs.size
  inv : ∀ A xe, (X.calm = true → A.handled = none) → A.frames = some (genv :: X.stack) → Inv (gcx X A s4 H2 genv fp [(a, go)] xe) [] (wipe σ vs) H2 s5
  back : ∀ A xe σ' H' sI pins', Inv (gcx X A s4 H2 genv fp [(a, go)] xe) pins' σ' H' sI → Inv X pins σ H' sI
  fc : ∀ H', H' genv.locals = none → FpOk X pins H' genv.locals
  nC : genv.locals ∉ frs X.stack
  na : a ∉ frs X.stack
section
variable {X : Cx} {pins : List (Addr × Obj)} {σ : L2.St} {H : Hp} {s : Shared} {elt tg iter : Expr} {ifs : List Expr} {scope : Scope} {own : List (Str × Nat)} {pos : Pos} {wi : TI} {c P : Addr}
theorem gen_make {k : Nat} {Q' : Value → Shared → Prop} {R : It → Hp → Prop} (hr : Room k X.A) (hN : X.N.Nodup) (TB : GxR.TabB X.base X.mg c P) (hcode : X.env.code = .ref c) (ok : GenOk X.N X.env.scope scope own) (hi : PI X tg iter wi) (hs : ∀ v, genFold iter X.env v = pure v)
    (I : Inv X pins σ H s) (h : wi σ H fun J H1 => GxR.TabG H1 P ∧ ∀ H2, GxR.Tabbed P H1 H2 → R J H2)
    (hQ : ∀ J H2 s4 fp it tn genv a gi go s5, R J H2 → GReady X pins σ H2 (own.map (·.2)) elt tg iter ifs scope pos s4 fp it tn J genv a gi go s5 → Q' (.ref a) s5) :
    wpAny (model X.prog X.w) X.A (eval (GE elt tg iter ifs scope pos) X.env) Q' X.xe s := by
  have caps : ∀ y ∈ scope.names, y.2 = .free → ∃ c, X.env.cells.lookup y.1 = some c := fun y hy e => (ok.blk.free y hy e).elim (fun k => I.ok.has _ (.inl k)) fun k => I.ok.has _ (.inr k)
  refine wpAny_GeneratorExp_make ok.co (closure_ok caps) ok.nocell ok.dot ok.blk.kind (by have := hr.dp; omega) ?_ hs
  refine thn (hi.run pins s σ H _ I h) fun xv s1 hx => thn hx fun itv s2 h2 => ?_
  obtain ⟨it, fp, tn, J, H1, rfl, I1, T, st2, f2, ⟨ps, hP, ht⟩, q⟩ := h2
  have hPs : s2.heap.get? P = some { cls := .none, data := .fields ps } := I1.hok P _ hP
  have cd : PySem.W.CodeHd s2.heap c P := TB.code.keeps fun b u e => I1.bk b u e
  have cont : ∀ (code : Value) (h3 : Heap) (tk : Nat) (more : Array Value), Heap.ExtBut P s2.heap h3 → s2.heap.objs.size ≤ h3.objs.size → h3.get? P = some { cls := .none, data := .fields (ps ++ more) } → TriplesOk (ps ++ more).toList →
      wpAny (model X.prog X.w) X.A (builtinsFor X.env.globals X.env.builtins) (fun bi s₄ => ∀ h', h'.Ns s₄.heap.objs.size (fun y => if y = ".0" then some (.ref it) else none) → Heap.SameBut s₄.heap.objs.size (s₄.heap.push { cls := .type "frame", data := .dict #[] }) h' →
          Q' (.ref h'.objs.size) { s₄ with
            gens := s₄.gens.push (.fresh (.compStart (GE elt tg iter ifs scope pos) 0 (.ref it) .none (genEnv scope (cloFrom X.env.cells scope.names []) s₄.heap.objs.size code bi X.env))),
            toks := s₄.toks + 1 + 1 + 1,
            heap := h'.push { cls := .type "generator", data := .fields #[.int s₄.gens.size 0, .str "<genexpr>" (s₄.toks + 1), .str (X.env.qual ++ "<genexpr>") (s₄.toks + 1 + 1)] } }) X.xe { s2 with heap := h3, toks := tk } := by
    intro code h3 tk more hx hsz hP3 ht3
    obtain ⟨bm, ob, e1, e2, e3, e4, e5, e6, e7, e8⟩ := TB.bm
    have keep3 : ∀ b u, b ≠ P → s2.heap.get? b = some u → h3.get? b = some u := fun b u hb e => hx b u hb e
    refine wpAny_builtinsFor (m := X.mg) (by rw [I1.ok.glob]; exact (I1.mod.glob.keeps I1.bk).extBut hx TB.gP) e1 e2 (keep3 _ _ e4 (I1.bk _ _ e5)) e6 e7 e8 ?_
    intro h' hn sb
    generalize hs4 : ({ s2 with heap := h3, toks := tk } : Shared) = s4 at hn sb ⊢
    have h4 : s4.heap = h3 := by rw [← hs4]
    have I4 : Inv X pins σ (upd H1 P (.tbl (ps ++ more))) s4 := by
      rw [← hs4]
      exact GxR.inv_tab (more := more) (g' := s2.gens) (d' := s2.drawn) I1 hP keep3 hP3 I1.bare
    have nP : ∀ b, H1 b = none → b ≠ P := fun b e z => by rw [z, hP] at e; cases e
    have st4 : tn 0 s4.heap := T.keep _ _ _ st2 fun b hb o e => by rw [h4]; exact keep3 b o (nP b (f2 b hb).1) e
    have f4 : ∀ b ∈ fp, FpOk X pins (upd H1 P (.tbl (ps ++ more))) b ∧ b < s4.heap.objs.size := fun b hb => by
      obtain ⟨o, e, _⟩ := T.obj _ _ st4 b hb
      refine ⟨⟨?_, (f2 b hb).2⟩, Heap.lt_size e⟩
      rw [upd_ne (nP b (f2 b hb).1)]
      exact (f2 b hb).1
    have szh : h'.objs.size = s4.heap.objs.size + 1 := by rw [sb.1, Heap.size_push]
    have keep' : ∀ b o, s4.heap.get? b = some o → h'.get? b = some o := fun b o e => sb.extBut b o (Nat.ne_of_lt (Heap.lt_size e)) (Heap.get?_push_of_some _ e)
    generalize hge : genEnv scope (cloFrom X.env.cells scope.names []) s4.heap.objs.size code builtinsNs X.env = genv
    generalize hgo : ({ cls := .type "generator", data := .fields #[.int s4.gens.size 0, .str "<genexpr>" (s4.toks + 1), .str (X.env.qual ++ "<genexpr>") (s4.toks + 1 + 1)] } : Obj) = go
    have goc : go.cls = .type "generator" := by rw [← hgo]
    have god : go.data = .fields #[.int s4.gens.size 0, .str "<genexpr>" (s4.toks + 1), .str (X.env.qual ++ "<genexpr>") (s4.toks + 1 + 1)] := by rw [← hgo]
    have gos : go.slots = #[] := by rw [← hgo]
    have gop : (h'.push go).get? h'.objs.size = some go := by rw [← hgo]; exact Heap.get?_push_size _ rfl
    have gL : genv.locals = s4.heap.objs.size := by rw [← hge]; rfl
    have stk : ∀ b ∈ frs X.stack, b < s4.heap.objs.size := fun b hb => by
      obtain ⟨_, o, e, _⟩ := I4.stack.mem hb
      exact Heap.lt_size e
    refine hQ J _ s4 fp it tn genv h'.objs.size s4.gens.size go _ (q _ ⟨⟨_, upd_same, ht3⟩, fun b hb => upd_ne hb⟩) ?_
    refine ⟨fun h e => ⟨go, _, _, e, goc, god, gos⟩, Array.getElem?_push_size .., gL, by rw [← hge]; rfl, by rw [← hge]; rfl, ⟨_, _, hge.symm⟩, T, T.keep _ _ _ st4 fun b hb o e => Heap.get?_push_of_some _ (keep' b o e),
      fun b hb => ⟨(f4 b hb).1.1, Nat.ne_of_lt (by rw [szh]; exact Nat.lt_succ_of_lt (f4 b hb).2)⟩, by rw [szh]; exact Nat.lt_succ_self _, by show _ < (h'.push go).objs.size; rw [Heap.size_push]; exact Nat.lt_succ_self _, fun A xe hA1 hA2 => ?_, fun A xe σ' H' sI pins' J1 => ?_, fun H' e => ?_,
      fun hm => by rw [gL] at hm; exact Nat.lt_irrefl _ (stk _ hm), fun hm => by have := stk _ hm; rw [szh] at this; exact Nat.lt_irrefl _ (Nat.lt_of_succ_lt this)⟩
    · exact gen_start (m := fun y => if y = ".0" then some (.ref it) else none) I4 ok hN f4 hge.symm hA1 hA2 (hn.push _) (fun b o e => Heap.get?_push_of_some _ (keep' b o e)) (by rw [szh]; exact Nat.lt_succ_self _) gop (fun v z => by rw [god] at z; cases z) (I4.bare.push rfl)
    · exact I4.call' (ch := fp) J1.os J1.base J1.hok J1.bare fun b hb => ⟨(f4 b hb).1.2.2.2.1, (f4 b hb).1.2.1, (f4 b hb).1.2.2.2.2.1, (f4 b hb).1.2.2.2.2.2⟩
    · rw [gL] at e ⊢
      exact I4.fpOk (Nat.le_refl _) e
  refine ⟨I1.nolimit, ?_⟩
  cases hf : codeAmong pos ps.toList with
  | none =>
    refine wpAny_genexprCodeX hcode (cd.code hPs ht) (cd.tab hPs) hf fun c' h' tk hx hge hlt hco' _ htab' _ => ?_
    obtain ⟨o1, vs, f1, tf, fl, tg, inF, tx, tt, op, _, _, _, _, _, _, _, _, _, htr, _⟩ := hco'
    exact cont _ h' tk _ hx (Nat.le_trans hge (Nat.le_of_lt hlt)) htab'.2 htr
  | some cv =>
    refine wpAny_genexprCode_hit hcode (cd.code hPs ht) hf ?_
    exact cont cv s2.heap s2.toks #[] (Heap.ExtBut.refl _ _) (Nat.le_refl _) (by simpa using hPs) (by simpa using ht)
/-- the around in which its body runs, woken from A -/
abbrev gArd (A : Around) (elt tg iter : Expr) (ifs : List Expr) (scope : Scope) (pos : Pos) (it : Addr) (genv : Env) : Around := A.over (.compLoop (GE elt tg iter ifs scope pos) 0 (.ref it) .none genv) []
theorem gArd_fr {A : Around} {it : Addr} {genv : Env} {l : List Env} (h : A.frames = some l) : (gArd A elt tg iter ifs scope pos it genv).frames = some (genv :: l) := by
  show pushEnvs [genv] (pushEnvs [] A.frames) = _
  rw [h]
  rfl
theorem gArd_room {A : Around} {it : Addr} {genv : Env} {k : Nat} (r : Room (k + 1) A) : Room k (gArd A elt tg iter ifs scope pos it genv) := by
  refine ⟨r.hd, ?_, ?_⟩
  · have h := r.dp
    have e : (gArd A elt tg iter ifs scope pos it genv).depth = A.depth + 0 + 1 := rfl
    rw [e]; omega
  · have h := r.un
    have e : (gArd A elt tg iter ifs scope pos it genv).units = A.units + 0 + 3 := rfl
    rw [e]; omega
section
variable {s4 s5 : Shared} {H2 : Hp} {fp : List Addr} {it a : Addr} {tn : Nat → Heap → Prop} {J : It} {genv : Env} {gi : Nat} {go : Obj} {A : Around} {L : Addr} {W : WX} {g : TG} {tt : TT} {te : TE} {Stop : Hp → Prop} {Yl : Yw} {V : Nat → Nat → Hp → Prop}
/-- the frame's context, woken from A -/
abbrev gX (X : Cx) (s4 : Shared) (H2 : Hp) (fp : List Addr) (L : Addr) (W : WX) (a : Addr) (go : Obj) (A : Around) (elt tg iter : Expr) (ifs : List Expr) (scope : Scope) (pos : Pos) (it : Addr) (genv : Env) : Cx :=
  gcx X (gArd A elt tg iter ifs scope pos it genv) s4 H2 genv fp [(a, go)] (gxe X (gArd A elt tg iter ifs scope pos it genv) L W genv a go)
theorem gen_wake (r : GReady X pins σ H2 (own.map (·.2)) elt tg iter ifs scope pos s4 fp it tn J genv a gi go s5) (hc : X.calm = true) (hco : scope.isCoroutine = false) (hA : A.frames = some X.stack) (hh : A.handled = none)
    (pg : PG (gX X s4 H2 fp L W a go A elt tg iter ifs scope pos it genv) tg g) (pt : PTs (gX X s4 H2 fp L W a go A elt tg iter ifs scope pos it genv) ifs tt) (pe : PE (gX X s4 H2 fp L W a go A elt tg iter ifs scope pos it genv) elt te)
    (turn : Turns J g tt te (own.map (·.2)) σ V Stop Yl) (m0 : Nat) :
    Wake (gX X s4 H2 fp L W a go A elt tg iter ifs scope pos it genv) A Stop Yl (GErr X L W a go) (.fresh (.compStart (GE elt tg iter ifs scope pos) 0 (.ref it) .none genv)) (m0 + 1) ([] ++ pinsAt fp s5.heap) (wipe σ (own.map (·.2))) (fun H => V 0 m0 H) := by
  intro s2 H3 I2 v
  have pn : ∀ b ∈ fp, ∀ o, s5.heap.get? b = some o → s2.heap.get? b = some o ∧ H3 b = none := fun b hb o e => by
    have q := I2.pin (b, o) (List.mem_append_right _ (List.mem_append_right _ (mem_pinsAt hb e)))
    exact ⟨q.1, q.2.1⟩
  have st : tn 0 s2.heap := r.T.keep _ _ _ r.tn0 fun b hb o e => (pn b hb o e).1
  have nf : ∀ b ∈ fp, H3 b = none := fun b hb => by
    obtain ⟨o, e, _⟩ := r.T.obj _ _ r.tn0 b hb
    exact (pn b hb o e).2
  have I3 : Inv (gX X s4 H2 fp L W a go A elt tg iter ifs scope pos it genv) [] (wipe σ (own.map (·.2))) H3 s2 := I2.unpinned (pins := [])
  have hco' : genv.scope.isCoroutine = false := by rw [r.gc]; exact hco
  have loop : ∀ n s₀, m0 < n → Seg (model X.prog X.w) A (GEnd (gX X s4 H2 fp L W a go A elt tg iter ifs scope pos it genv) Stop (GErr X L W a go)) (GYl (gX X s4 H2 fp L W a go A elt tg iter ifs scope pos it genv) Yl) n s₀ (.compLoop (GE elt tg iter ifs scope pos) 0 (.ref it) .none genv) ((model X.prog X.w).den (.compLoop (GE elt tg iter ifs scope pos) 0 (.ref it) .none genv)) [] s2 := fun n s₀ hn =>
    gen_loop (Xg := gX X s4 H2 fp L W a go A elt tg iter ifs scope pos it genv) (iter := iter) (scope := scope) (pos := pos) rfl hc hco' rfl (fun b hb p hp => by rw [List.mem_singleton.mp hp]; exact fun z => (r.fpn b hb).2 z.symm) r.T pg pt pe turn (fun _ _ h => h) m0 0 n s₀ s2 H3 hn I3 st nf v
  refine ⟨rfl, ?_⟩
  show Seg _ A _ _ (m0 + 1) s2 _ ((compStart (GE elt tg iter ifs scope pos) 0 (.ref it) .none genv).onRaise (leaving genv)) [] s2
  unfold compStart
  rw [Sem.onRaise_eq_wrap]
  show Seg _ A _ _ (m0 + 1) s2 _ ((ask >>= _).wrap _ _ _ _) [] s2
  refine seg_bind_wrap (wpAny_askSetting ?_)
  split
  · exact seg_again rfl (loop _ _ (Nat.lt_succ_self _))
  · first
      | exact seg_bind_wrap (wpAny_rule (seg_bind_wrap (wpAny_standAt (seg_bind_wrap (r.T.self _ 0 s2 _ _ st (seg_again rfl (loop _ _ (Nat.lt_succ_self _))))))))
      | (refine seg_bind_wrap (wpAny_rule ?_); show Seg _ A _ _ (m0 + 1) s2 _ ((standAt iter.pos >>= _).wrap _ _ _ _) [] s2; exact seg_bind_wrap (wpAny_standAt (seg_bind_wrap (r.T.self _ 0 s2 _ _ st (seg_again rfl (loop _ _ (Nat.lt_succ_self _)))))))
end
end
end PM
end
section
set_option Elab.async false
set_option linter.all false
set_option maxRecDepth 100000
set_option autoImplicit false
set_option maxHeartbeats 4000000
namespace PM
open PySem PySem.Spec PyProof.Rows L2 GenW

abbrev AtGen (X : Cx) (scope : Scope) (R : Cx → Addr → Prop) : Prop := ∀ (A : Around) (s : Shared) (H : Hp) (cl : List (Str × Addr)) (C : Addr) (code : Value) (fp : List Addr) (pn : List (Addr × Obj)) (xe : Value → Shared → Prop),
  R (gcx X A s H (genEnv scope cl C code builtinsNs X.env) fp pn xe) C
/-- no StopIteration -/
def NoSI (K : PySem.W.Frag) (cls : Value) : Prop := ∀ (M : Model) (h : Heap), K.In h → PySem.W.Looks M h (isSubtype cls (.type "StopIteration")) false
def tGen (wi : TI) (g : TG) (tt : L2.St → TT) (te : L2.St → TE) (vs : List Nat) (P : Addr) (Stop : VK → Hp → Prop) (Yl : VK → Yw) : TE := fun σ H Q => wi σ H fun J H1 => GxR.TabG H1 P ∧ ∀ H2, GxR.Tabbed P H1 H2 →
  ∃ (V : Nat → Nat → Hp → Prop) (m0 : Nat), V 0 m0 H2 ∧ Turns J g (tt σ) (te σ) vs σ V (Stop Q) (Yl Q)
section
variable {X : Cx} {pins : List (Addr × Obj)} {σ : L2.St} {H H2 : Hp} {s s4 s5 : Shared} {elt tg iter : Expr} {ifs : List Expr} {scope : Scope} {own : List (Str × Nat)} {pos : Pos} {wi : TI} {c P L it a : Addr} {W : WX} {g : TG} {tt : L2.St → TT} {te : L2.St → TE} {k gi : Nat} {go : Obj} {fp : List Addr} {tn : Nat → Heap → Prop} {J : It} {genv : Env} {A : Around}
theorem gerr_out {e : Value} {s' : Shared} (hns : ∀ cls d σ H, W cls d σ H → NoSI X.K cls) (tk : TakesL X L W) (h : GErr X L W a go e s') : s'.heap.get? a = some go ∧ NotStop (model X.prog X.w) e s'.heap ∧ X.xe e (s'.setGen gi .finished) := by
  obtain ⟨⟨e0, B, sI, pins, σ, H, cls, d, rfl, I, nb, up, sky, ne, os, ag, w⟩, hgo⟩ := h
  refine ⟨hgo, ?_, tk _ _ ⟨e0, B, sI, pins, σ, H, cls, d, rfl, I, nb, up, sky, ne, os, allBare_setGen ag rfl, w⟩⟩
  have stays : B.StaysIn s'.heap := by
    rcases sky with ⟨h, _⟩ | h | h
    · exact h
    · exact h.1
    · exact h.1
  have kin : X.K.In s'.heap := I.ok.mod.kin.keeps fun b o eb => stays b o (nb b o (I.bk b o eb) fun hm => by
    rcases List.mem_cons.mp (I.stkSub b hm) with z | z
    · have h1 := Heap.lt_size eb
      have h2 := Nat.le_trans I.ok.bsz I.ok.above
      rw [z] at h1
      exact absurd (Nat.lt_of_lt_of_le h1 h2) (Nat.lt_irrefl _)
    · exact I.ok.nofr eb z)
  obtain ⟨oe, he, hz⟩ : ∃ oe, s'.heap.get? e0 = some oe ∧ Zc cls d oe := by
    rcases sky with ⟨_, _, _, oe, _, he, hz, _⟩ | h | h
    · exact ⟨oe, he, hz⟩
    · obtain ⟨oe, _, he, hz, _⟩ := h.there
      exact ⟨oe, he, hz⟩
    · obtain ⟨_, _, _, oe, _, _, _, _, he, hz, _⟩ := h
      exact ⟨oe, he, hz⟩
  have l := hns cls d σ H w (model X.prog X.w) s'.heap kin
  intro A Q E s2 hs hq
  simp only [isInstance]
  refine wpAny_bind (wpAny_typeOf_ref (o := oe) (by rw [hs]; exact he) ?_)
  rw [hz.1]
  exact l A Q E s2 (fun b o z => by rw [hs]; exact z) hq
/-- the readings in the frame -/
structure GRd (X : Cx) (L : Addr) (W : WX) (σ : L2.St) (k : Nat) (elt tg : Expr) (ifs : List Expr) (scope : Scope) (g : TG) (tt : L2.St → TT) (te : L2.St → TE) : Prop where
  pg : AtGen X scope fun Y _ => PG Y tg g
  pt : ∀ σ, AtGen X scope fun Y C => Room k Y.A → TakesL Y C (WAt W σ) → PTs Y ifs (tt σ)
  pe : ∀ σ, AtGen X scope fun Y C => Room k Y.A → TakesL Y C (WAt W σ) → PE Y elt (te σ)
theorem gen_in (r : GReady X pins σ H2 (own.map (·.2)) elt tg iter ifs scope pos s4 fp it tn J genv a gi go s5) (hr : Room (k + 1) A) (hA : A.frames = some X.stack) (rd : GRd X L W σ k elt tg ifs scope g tt te) :
    PG (gX X s4 H2 fp L W a go A elt tg iter ifs scope pos it genv) tg g ∧ PTs (gX X s4 H2 fp L W a go A elt tg iter ifs scope pos it genv) ifs (tt σ) ∧ PE (gX X s4 H2 fp L W a go A elt tg iter ifs scope pos it genv) elt (te σ) := by
  have tk : TakesL (gX X s4 H2 fp L W a go A elt tg iter ifs scope pos it genv) genv.locals (WAt W σ) := fun u s' x =>
    gen_takes (X1 := gX X s4 H2 fp L W a go A elt tg iter ifs scope pos it genv) (L := L) (W := W) (σ := σ) (pins := pins) (gArd_fr hA) r.gf rfl rfl (List.mem_singleton.mpr rfl) (fun σ' H' sI pins' J1 => r.back _ _ σ' H' sI pins' J1) r.fc r.nC r.na (fun _ _ _ _ h => h) u s' x
  have rm : Room k (gX X s4 H2 fp L W a go A elt tg iter ifs scope pos it genv).A := gArd_room hr
  obtain ⟨cl, code, ge⟩ := r.ge
  have gl := r.gl
  subst ge
  exact ⟨rd.pg _ _ _ _ _ _ _ _ _, rd.pt σ _ _ _ _ _ _ _ _ _ rm tk, rd.pe σ _ _ _ _ _ _ _ _ _ rm tk⟩
theorem ready_isGen (r : GReady X pins σ H2 (own.map (·.2)) elt tg iter ifs scope pos s4 fp it tn J genv a gi go s5) (hA : A.frames = some X.stack) (hh : A.handled = none) : s5.heap.IsGen a gi := by
  have I := r.inv (gArd A elt tg iter ifs scope pos it genv) (fun _ _ => False) (fun _ => hh) (gArd_fr hA)
  exact r.gen _ (I.pin (a, go) (List.mem_append_left _ (List.mem_singleton.mpr rfl))).1
theorem pe_gAny {p pos' : Pos} (hr : Room (k + 3) X.A) (hc : X.calm = true) (hN : X.N.Nodup) (tk : TakesL X L W) (hns : ∀ cls d σ H, W cls d σ H → NoSI X.K cls) (hg : Gl X "any") (hm : X.mg "any" = none) (TB : GxR.TabB X.base X.mg c P) (hcode : X.env.code = .ref c)
    (ok : GenOk X.N X.env.scope scope own) (hi : PI X tg iter wi) (rd : ∀ σ, GRd X L W σ k elt tg ifs scope g tt te) (hs : ∀ v, genFold iter X.env v = pure v)
    (he : starEach [GE elt tg iter ifs scope pos] X.env = (false, eval (GE elt tg iter ifs scope pos) X.env) :: starEach [] X.env := by rfl) :
    PE X (.Call (.Name "any" p) [GE elt tg iter ifs scope pos] [] pos') (tGen wi g tt te (own.map (·.2)) P (fun Q => Q (.bl false)) fun Q => yAny (Q (.bl true))) := by
  refine ⟨fun pins s σ H Q I h => ?_⟩
  refine wpAny_Call_Name_kw (ld_blt I hg hm boot_any ?_)
  refine PyProof.Rows.callWith_builtin1 ?_ he (by rfl)
  rw [he]
  show wpAny _ _ (spliced ((false, eval (GE elt tg iter ifs scope pos) X.env) :: backTo pos' (starEach [] X.env))) _ _ s
  refine Calls.spliced_cons (gen_make hr hN TB hcode ok hi hs I h fun J H2 s4 fp it tn genv a gi go s5 ⟨V, m0, v0, turn⟩ r => ?_)
  refine Calls.spliced_nil ?_
  have hA : X.A.frames = some X.stack := I.ok.frames
  have hh : X.A.handled = none := hr.hd
  have hd : X.A.depth < recursionLimit := hr.depth
  refine call_function_tree F.kind_any F.plain_any F.entry_any (F.args_any1 _) ?_
  unfold Builtin.«any»
  refine wpAny_bind (m := oneArg "any" _) (wpAny_pure ?_)
  refine wpAny_bind (wpAny_pyIter_gen (ready_isGen r hA hh) ?_)
  obtain ⟨pg, pt, pe⟩ := gen_in (A := X.A.in1.in1) r hr.in1.in1 hA (rd σ)
  have I5 := r.inv (gArd X.A.in1.in1 elt tg iter ifs scope pos it genv) (gxe X (gArd X.A.in1.in1 elt tg iter ifs scope pos it genv) L W genv a go) (fun _ => hh) (gArd_fr hA)
  have stat : ∀ b ∈ fp, FpOk (gX X s4 H2 fp L W a go X.A.in1.in1 elt tg iter ifs scope pos it genv) [] H2 b := fun b hb =>
    ⟨(r.fpn b hb).1, (I5.ok.exf b hb).1, I5.ok.exfs b hb, .inl hb, fun x c e => (I5.ok.exf b hb).2 x c e, fun p hp => by
      have : p = (a, go) := by simpa using hp
      rw [this]; exact fun z => (r.fpn b hb).2 z.symm⟩
  have I5p := I5.pinned stat (r.T.obj _ _ r.tn0)
  have bk : ∀ p σ' H' s', Inv (gX X s4 H2 fp L W a go X.A.in1.in1 elt tg iter ifs scope pos it genv) p σ' H' s' → Inv X pins σ H' s' := fun p σ' H' s' J1 => r.back _ _ σ' H' s' p J1
  exact wpAny_pure ⟨plainId_quiet F.plain_any_loop _, any_loop (Xg := gX X s4 H2 fp L W a go X.A.in1.in1 elt tg iter ifs scope pos it genv) (A := X.A) (QT := Q (.bl true)) (QF := Q (.bl false)) r.gen (List.mem_singleton.mpr rfl) hh hd (fun p σ' H' s' J1 q => ⟨.bl true, H', bk _ _ _ _ J1, rfl, q⟩) (fun p σ' H' s' J1 q => ⟨.bl false, H', bk _ _ _ _ J1, rfl, q⟩)
    (fun e s' h => gerr_out hns tk h) (m0 + 1) _ _ _ H2 s5 _ I5p r.new v0 (gen_wake (A := X.A.in1.in1) r hc ok.co hA hh pg pt pe turn m0)⟩
theorem pe_gAll {p pos' : Pos} (hr : Room (k + 3) X.A) (hc : X.calm = true) (hN : X.N.Nodup) (tk : TakesL X L W) (hns : ∀ cls d σ H, W cls d σ H → NoSI X.K cls) (hg : Gl X "all") (hm : X.mg "all" = none) (TB : GxR.TabB X.base X.mg c P) (hcode : X.env.code = .ref c)
    (ok : GenOk X.N X.env.scope scope own) (hi : PI X tg iter wi) (rd : ∀ σ, GRd X L W σ k elt tg ifs scope g tt te) (hs : ∀ v, genFold iter X.env v = pure v)
    (he : starEach [GE elt tg iter ifs scope pos] X.env = (false, eval (GE elt tg iter ifs scope pos) X.env) :: starEach [] X.env := by rfl) :
    PE X (.Call (.Name "all" p) [GE elt tg iter ifs scope pos] [] pos') (tGen wi g tt te (own.map (·.2)) P (fun Q => Q (.bl true)) fun Q => yAll (Q (.bl false))) := by
  refine ⟨fun pins s σ H Q I h => ?_⟩
  refine wpAny_Call_Name_kw (ld_blt I hg hm (by first | rfl | decide +kernel) ?_)
  refine PyProof.Rows.callWith_builtin1 ?_ he (by rfl)
  rw [he]
  show wpAny _ _ (spliced ((false, eval (GE elt tg iter ifs scope pos) X.env) :: backTo pos' (starEach [] X.env))) _ _ s
  refine Calls.spliced_cons (gen_make hr hN TB hcode ok hi hs I h fun J H2 s4 fp it tn genv a gi go s5 ⟨V, m0, v0, turn⟩ r => ?_)
  refine Calls.spliced_nil ?_
  have hA : X.A.frames = some X.stack := I.ok.frames
  have hh : X.A.handled = none := hr.hd
  have hd : X.A.depth < recursionLimit := hr.depth
  refine call_function_tree F.kind_all F.plain_all F.entry_all (F.args_all1 _) ?_
  unfold Builtin.«all»
  refine wpAny_bind (m := oneArg "all" _) (wpAny_pure ?_)
  refine wpAny_bind (wpAny_pyIter_gen (ready_isGen r hA hh) ?_)
  obtain ⟨pg, pt, pe⟩ := gen_in (A := X.A.in1.in1) r hr.in1.in1 hA (rd σ)
  have I5 := r.inv (gArd X.A.in1.in1 elt tg iter ifs scope pos it genv) (gxe X (gArd X.A.in1.in1 elt tg iter ifs scope pos it genv) L W genv a go) (fun _ => hh) (gArd_fr hA)
  have stat : ∀ b ∈ fp, FpOk (gX X s4 H2 fp L W a go X.A.in1.in1 elt tg iter ifs scope pos it genv) [] H2 b := fun b hb =>
    ⟨(r.fpn b hb).1, (I5.ok.exf b hb).1, I5.ok.exfs b hb, .inl hb, fun x c e => (I5.ok.exf b hb).2 x c e, fun p hp => by
      have : p = (a, go) := by simpa using hp
      rw [this]; exact fun z => (r.fpn b hb).2 z.symm⟩
  have I5p := I5.pinned stat (r.T.obj _ _ r.tn0)
  have bk : ∀ p σ' H' s', Inv (gX X s4 H2 fp L W a go X.A.in1.in1 elt tg iter ifs scope pos it genv) p σ' H' s' → Inv X pins σ H' s' := fun p σ' H' s' J1 => r.back _ _ σ' H' s' p J1
  exact wpAny_pure ⟨plainId_quiet F.plain_all_loop _, all_loop (Xg := gX X s4 H2 fp L W a go X.A.in1.in1 elt tg iter ifs scope pos it genv) (A := X.A) (QT := Q (.bl true)) (QF := Q (.bl false)) r.gen (List.mem_singleton.mpr rfl) hh hd (fun p σ' H' s' J1 q => ⟨.bl true, H', bk _ _ _ _ J1, rfl, q⟩) (fun p σ' H' s' J1 q => ⟨.bl false, H', bk _ _ _ _ J1, rfl, q⟩)
    (fun e s' h => gerr_out hns tk h) (m0 + 1) _ _ _ H2 s5 _ I5p r.new v0 (gen_wake (A := X.A.in1.in1) r hc ok.co hA hh pg pt pe turn m0)⟩
end
end PM
end
section
set_option Elab.async false
set_option linter.all false
set_option maxRecDepth 100000
set_option autoImplicit false
set_option maxHeartbeats 4000000
namespace PM
open PySem PySem.Spec PyProof.Rows L2 GenW

section
variable {Xg : Cx} {A : Around} {Er : Value → Shared → Prop} {gs : GenState} {a : Addr} {gi n : Nat} {go : Obj} {p8 : List (Addr × Obj)} {σ8 : L2.St} {H : Hp} {s : Shared}
/-- all that g hands out, in a row -/
theorem collect_gen {N : Addr → Hp → Prop} {QE : Addr → Hp → Prop} {Q : List Value → Shared → Prop} {E : Value → Shared → Prop} (hgo : ∀ h : Heap, h.get? a = some go → h.IsGen a gi) (hpn : (a, go) ∈ Xg.pn) (hh : A.handled = none) (hd : A.depth < recursionLimit) (I : Inv Xg p8 σ8 H s) (hgs : s.gens[gi]? = some gs)
    (nH : ∀ S, H S = none → N S (upd H S (.lst []))) (hw : ∀ S, Wake Xg A.in1.in1 (QE S) (yPut S) Er gs n p8 σ8 (N S))
    (hQ : ∀ S p σ' H' s' us ys, Inv Xg p σ' H' s' → QE S H' → H' S = some (.lst ys) → Vals ys us → Q us s') (hQE : ∀ S H', QE S H' → ∃ ys, H' S = some (.lst ys))
    (hE : ∀ e s', Er e s' → s'.heap.get? a = some go ∧ NotStop (model Xg.prog Xg.w) e s'.heap ∧ E e (s'.setGen gi .finished)) : wpAny (model Xg.prog Xg.w) A (collect (.ref a)) Q E s := by
  have ga : s.heap.get? a = some go := (I.pin (a, go) (List.mem_append_left _ hpn)).1
  have hSI : s.heap.objs.size ≠ a := Nat.ne_of_gt (Heap.lt_size ga)
  have ty : ∀ {h : Heap}, (∀ b o, s.heap.get? b = some o → h.get? b = some o) → (⟨h, s.gens, s.drawn, s.toks, s.os⟩ : Shared).TypeIs (.ref a) "generator" := fun {h} k => Heap.IsGen.typeIs (hgo h (k _ _ ga))
  unfold collect
  refine wpAny_bind (wpAny_runValue (codeAny_builtin F.entry_proto_collect ?_))
  rw [Around.under_plainId F.plain_proto_collect _]
  show wpAny _ A.in1 (newList [] >>= fun l => again (.builtin "list.__iadd__" ⟨[l, .ref a], []⟩)) _ _ s
  refine wpAny_bind (wpAny_newObj_type ?_)
  refine wpAny_pure ⟨plainId_quiet F.plain_list_iadd _, codeAny_builtin F.entry_list_iadd ?_⟩
  rw [Around.under_plainId F.plain_list_iadd _]
  have k1 : ∀ b o, s.heap.get? b = some o → (s.heap.push { cls := .type "list", data := .seq ([] : List Value).toArray }).get? b = some o := fun b o e => Heap.get?_push_of_some _ e
  show wpAny _ A.in1 (Builtin.List.listExtendWith (.ref s.heap.objs.size) (.ref a) (.ref s.heap.objs.size)) _ _ _
  unfold Builtin.List.listExtendWith
  refine wpAny_bind (wpAny_typeOf (ty k1) ?_)
  have h1 : Builtin.List.listSameRef (.ref s.heap.objs.size) (.ref a) = false := by simp [Builtin.List.listSameRef, hSI]
  have h2 : (Value.type "generator" == Value.type "list") = false := by decide
  have h3 : (Value.type "generator" == Value.type "tuple") = false := by decide
  simp only [h1, h2, h3, Bool.or_false, Bool.false_eq_true, if_false]
  refine wpAny_bind (wpAny_pyIter_gen (s := ⟨_, s.gens, s.drawn, s.toks, s.os⟩) (hgo _ (k1 _ _ ga)) ?_)
  refine wpAny_bind (wpAny_holding ?_)
  unfold Builtin.List.listLengthHint
  refine wpAny_bind (wpAny_specialOf (ty k1) F.gen_no_len ?_)
  show wpAny _ A.in1 (specialOf (Value.ref a) (Str.ofString "__length_hint__") >>= _) _ _ _
  refine wpAny_bind (wpAny_specialOf (ty k1) F.gen_no_hint ?_)
  refine wpAny_pure ?_
  show wpAny _ A.in1 (rule "list.extend.makes-room" >>= fun _ => Builtin.List.listTouch (.ref s.heap.objs.size) >>= fun _ => again (.builtin "list.extend.loop" ⟨[.ref s.heap.objs.size, .ref a, .ref s.heap.objs.size], []⟩)) _ _ _
  refine wpAny_bind (wpAny_rule ?_)
  have hS₁ : (s.heap.push { cls := .type "list", data := .seq ([] : List Value).toArray }).get? s.heap.objs.size = some { cls := .type "list", data := .seq ([] : List Value).toArray } := Heap.get?_push_size _ rfl
  refine wpAny_bind ?_
  show wpAny _ A.in1 (updateSeq s.heap.objs.size (·.push .none) >>= fun _ => updateSeq s.heap.objs.size (·.pop)) _ _ _
  refine wpAny_bind (wpAny_updateSeq hS₁ rfl ?_)
  have hS₂ := Heap.get?_update_self (Obj.mapSeq (·.push Value.none)) hS₁ rfl
  refine wpAny_updateSeq hS₂ rfl ?_
  have hS₃ := Heap.get?_update_self (Obj.mapSeq (·.pop)) hS₂ rfl
  have k3 : ∀ b o, s.heap.get? b = some o → (((s.heap.push { cls := .type "list", data := .seq ([] : List Value).toArray }).update s.heap.objs.size (Obj.mapSeq (·.push Value.none))).update s.heap.objs.size (Obj.mapSeq (·.pop))).get? b = some o := fun b o e => by
    have hb : s.heap.objs.size ≠ b := Nat.ne_of_gt (Heap.lt_size e)
    exact (Heap.get?_update_other _ _ hb).trans ((Heap.get?_update_other _ _ hb).trans (k1 b o e))
  have I3 := I.laid (t' := s.toks) (a := s.heap.objs.size) (o := .lst []) k3 (Nat.le_refl _) ⟨Nat.zero_le _, [], _, .nil, hS₃⟩
  refine wpAny_pure ⟨plainId_quiet F.plain_extend_loop _, put_loop (Xg := Xg) (A := A) (QE := QE s.heap.objs.size) hgo hpn hh hd (fun p σ' H' s' J1 q => ?_) hE n p8 σ8 (N s.heap.objs.size) _ _ gs I3 hgs (nH _ (I.hok.fresh (Nat.le_refl _))) (hw _)⟩
  obtain ⟨ys, hys⟩ := hQE _ _ q
  obtain ⟨hz, its, c, ri, e⟩ := J1.hok _ _ hys
  show wpAny _ A (load s.heap.objs.size >>= _) _ _ s'
  refine wpAny_bind (wpAny_load e ?_)
  refine wpAny_pure ?_
  exact hQ _ p σ' H' s' _ ys J1 q hys (by simpa using ri)
/-- tuple(g) -/
theorem tuple_new {Q : Value → Shared → Prop} {E : Value → Shared → Prop} {G : List Value → Shared → Prop} (hT : s.TypeIs (.ref a) "generator") (hG : ∀ us s', G us s' → us.length ≤ sizeLine)
    (hcol : ∀ {Q' : List Value → Shared → Prop} {E' : Value → Shared → Prop}, ((∀ us s', G us s' → Q' us s') ∧ ∀ e s', E e s' → E' e s') → wpAny (model Xg.prog Xg.w) A.in1.in1 (collect (.ref a)) Q' E' s)
    (hQ : ∀ us s', G us s' → Q (.ref s'.heap.objs.size) { s' with heap := s'.heap.push { cls := .type "tuple", data := .seq us.toArray } }) : wpAny (model Xg.prog Xg.w) A (call (.type "tuple") [.ref a]) Q E s := by
  refine callType_codes (Q₁ := fun obj s₁ => s₁.TypeIs obj "tuple" ∧ Q obj s₁) F.called_tuple (F.typeCall_tuple_1 _) F.entry_object_init ?_ fun obj s₁ h₁ => ?_
  · refine codeAny_of_tree ?_
    show wpAny _ A.in1.in1 (do checkBuiltinCall "tuple.__new__" ⟨[.type "tuple", .ref a], []⟩; again (.builtin "tuple.__new__" ⟨[.type "tuple", .ref a], []⟩)) _ _ s
    refine wpAny_bind (wpAny_of_eq (F.newCall_tuple_1 _) (wpAny_pure ⟨plainId_quiet F.plain_tuple_new _, codeAny_builtin F.entry_tuple_new ?_⟩))
    rw [Around.under_plainId F.plain_tuple_new _]
    have hsub := sub_tuple_self
    have hinit := init_tuple_lookup
    have hmh := madeHere_tuple
    wp_walk using wpAny_typeOf hT, hcol
    refine ⟨fun us s' hg => ?_, fun e s' h => h⟩
    show wpAny _ _ (Builtin.Tuple.tupleExact us.toArray >>= fun v => ret v) _ _ _
    unfold Builtin.Tuple.tupleExact
    refine wpAny_bind (wpAny_newObj_type ?_ (by show us.toArray.size ≤ sizeLine; simp only [List.size_toArray]; exact hG us s' hg))
    exact wpAny_pure ⟨⟨_, Heap.get?_push_size _ rfl, rfl⟩, hQ us s' hg⟩
  · exact ⟨h₁.1, F.args_object_init_2 obj _, object_init_meets F.called_tuple.init.lookup F.called_tuple.made (by decide) Xg.prog Xg.w A.in1 _ s₁ ⟨h₁.1, rfl, h₁.2⟩⟩
end
/-- into a new list S, then on -/
def tGenL (wi : TI) (g : TG) (tt : L2.St → TT) (te : L2.St → TE) (vs : List Nat) (P : Addr) (Fin : VK → List V → Hp → Prop) : TE := fun σ H Q => wi σ H fun J H1 => GxR.TabG H1 P ∧ ∀ H2, GxR.Tabbed P H1 H2 → ∃ m0, ∀ S, H2 S = none →
  ∃ (V : Nat → Nat → Hp → Prop), V 0 m0 (upd H2 S (.lst [])) ∧ Turns J g (tt σ) (te σ) vs σ V (fun H => ∃ ys, H S = some (.lst ys) ∧ Fin Q ys H) (yPut S)
section
variable {X : Cx} {pins : List (Addr × Obj)} {σ : L2.St} {H H2 : Hp} {s s4 s5 : Shared} {elt tg iter : Expr} {ifs : List Expr} {scope : Scope} {own : List (Str × Nat)} {pos : Pos} {wi : TI} {c P L it a : Addr} {W : WX} {g : TG} {tt : L2.St → TT} {te : L2.St → TE} {k gi : Nat} {go : Obj} {fp : List Addr} {tn : Nat → Heap → Prop} {J : It} {genv : Env} {A : Around}
/-- all that the generator hands out, at an around A of ours -/
theorem ready_collect {Q : List Value → Shared → Prop} {m0 : Nat} {Fin : List V → Hp → Prop} (r : GReady X pins σ H2 (own.map (·.2)) elt tg iter ifs scope pos s4 fp it tn J genv a gi go s5) (hc : X.calm = true) (hco : scope.isCoroutine = false) (tk : TakesL X L W) (hns : ∀ cls d σ H, W cls d σ H → NoSI X.K cls)
    (hr : Room (k + 3) A) (hA : A.frames = some X.stack) (rd : GRd X L W σ k elt tg ifs scope g tt te)
    (hV : ∀ S, H2 S = none → ∃ (V : Nat → Nat → Hp → Prop), V 0 m0 (upd H2 S (.lst [])) ∧ Turns J g (tt σ) (te σ) (own.map (·.2)) σ V (fun H => ∃ ys, H S = some (.lst ys) ∧ Fin ys H) (yPut S))
    (hQ : ∀ H' s' us ys, Inv X pins σ H' s' → Fin ys H' → Vals ys us → Q us s') : wpAny (model X.prog X.w) A (collect (.ref a)) Q X.xe s5 := by
  have hh : A.handled = none := hr.hd
  have hd : A.depth < recursionLimit := hr.depth
  obtain ⟨pg, pt, pe⟩ := gen_in (A := A.in1.in1) r hr.in1.in1 hA rd
  have I5 := r.inv (gArd A.in1.in1 elt tg iter ifs scope pos it genv) (gxe X (gArd A.in1.in1 elt tg iter ifs scope pos it genv) L W genv a go) (fun _ => hh) (gArd_fr hA)
  have stat : ∀ b ∈ fp, FpOk (gX X s4 H2 fp L W a go A.in1.in1 elt tg iter ifs scope pos it genv) [] H2 b := fun b hb =>
    ⟨(r.fpn b hb).1, (I5.ok.exf b hb).1, I5.ok.exfs b hb, .inl hb, fun x c e => (I5.ok.exf b hb).2 x c e, fun p hp => by
      have : p = (a, go) := by simpa using hp
      rw [this]; exact fun z => (r.fpn b hb).2 z.symm⟩
  have I5p := I5.pinned stat (r.T.obj _ _ r.tn0)
  -- the list's place is known ahead: the wish at S
  let VS : Addr → Nat → Nat → Hp → Prop := fun S => if h : H2 S = none then Classical.choose (hV S h) else fun _ _ _ => False
  have vs : ∀ S (h : H2 S = none), VS S 0 m0 (upd H2 S (.lst [])) ∧ Turns J g (tt σ) (te σ) (own.map (·.2)) σ (VS S) (fun H => ∃ ys, H S = some (.lst ys) ∧ Fin ys H) (yPut S) := fun S h => by
    have e : VS S = Classical.choose (hV S h) := dif_pos h
    rw [e]
    exact Classical.choose_spec (hV S h)
  have tv : ∀ S, Turns J g (tt σ) (te σ) (own.map (·.2)) σ (VS S) (fun H => ∃ ys, H S = some (.lst ys) ∧ Fin ys H) (yPut S) := fun S => by
    by_cases h : H2 S = none
    · exact (vs S h).2
    · intro i m H v
      have e : VS S = fun _ _ _ => False := dif_neg h
      rw [e] at v
      exact v.elim
  exact collect_gen (Xg := gX X s4 H2 fp L W a go A.in1.in1 elt tg iter ifs scope pos it genv) (A := A) (N := fun S H => VS S 0 m0 H) (QE := fun S H => ∃ ys, H S = some (.lst ys) ∧ Fin ys H) r.gen (List.mem_singleton.mpr rfl) hh hd I5p r.new (fun S h => (vs S h).1)
    (fun S => gen_wake (A := A.in1.in1) r hc hco hA hh pg pt pe (tv S) m0) (fun S p σ' H' s' us ys J1 q hS rv => by
      obtain ⟨zs, hz, f⟩ := q
      rw [hS] at hz
      cases hz
      exact hQ H' s' us ys (r.back _ _ σ' H' s' p J1) f rv) (fun S H' q => by
      obtain ⟨zs, hz, f⟩ := q
      exact ⟨zs, hz⟩) fun e s' h => gerr_out hns tk h
theorem pe_gTup {p pos' : Pos} (hr : Room (k + 5) X.A) (hc : X.calm = true) (hN : X.N.Nodup) (tk : TakesL X L W) (hns : ∀ cls d σ H, W cls d σ H → NoSI X.K cls) (hg : Gl X "tuple") (hm : X.mg "tuple" = none) (TB : GxR.TabB X.base X.mg c P) (hcode : X.env.code = .ref c)
    (ok : GenOk X.N X.env.scope scope own) (hi : PI X tg iter wi) (rd : ∀ σ, GRd X L W σ k elt tg ifs scope g tt te) (hs : ∀ v, genFold iter X.env v = pure v)
    (he : starEach [GE elt tg iter ifs scope pos] X.env = (false, eval (GE elt tg iter ifs scope pos) X.env) :: starEach [] X.env := by rfl) :
    PE X (.Call (.Name "tuple" p) [GE elt tg iter ifs scope pos] [] pos') (tGenL wi g tt te (own.map (·.2)) P fun Q ys H => ys.length ≤ sizeLine ∧ ∀ T, H T = none → Q (.ref T) (upd H T (.tup ys))) := by
  refine ⟨fun pins s σ H Q I h => ?_⟩
  refine wpAny_Call_Name_kw (ld_blt I hg hm (by first | rfl | decide +kernel) ?_)
  refine PyProof.Rows.callWith_type1 ?_ he (by rfl)
  rw [he]
  show wpAny _ _ (spliced ((false, eval (GE elt tg iter ifs scope pos) X.env) :: backTo pos' (starEach [] X.env))) _ _ s
  refine Calls.spliced_cons (gen_make hr hN TB hcode ok hi hs I h fun J H2 s4 fp it tn genv a gi go s5 ⟨m0, hV⟩ r => ?_)
  refine Calls.spliced_nil ?_
  have hA : X.A.frames = some X.stack := I.ok.frames
  refine tuple_new (Xg := X) (G := fun us s' => ∃ H' ys, Inv X pins σ H' s' ∧ Vals ys us ∧ ys.length ≤ sizeLine ∧ ∀ T, H' T = none → Q (.ref T) (upd H' T (.tup ys))) (Heap.IsGen.typeIs (ready_isGen r hA hr.hd)) (fun us s' ⟨H', ys, _, rv, l, _⟩ => by rw [← rv.length]; exact l) (fun {Q' E'} q => ?_) fun us s' ⟨H', ys, J1, rv, l, q⟩ => ?_
  · refine wpAny_mono (ready_collect (Q := fun us s' => ∃ H' ys, Inv X pins σ H' s' ∧ Vals ys us ∧ ys.length ≤ sizeLine ∧ ∀ T, H' T = none → Q (.ref T) (upd H' T (.tup ys))) (A := X.A.in1.in1) r hc ok.co tk hns hr.in1.in1 hA (rd σ) hV fun H' s' us ys J1 f rv => ⟨H', ys, J1, rv, f.1, f.2⟩) (fun us s' h => q.1 us s' h) fun e s' h => q.2 e s' h
  · have hf : H' s'.heap.objs.size = none := J1.hok.fresh (Nat.le_refl _)
    exact ⟨.ref s'.heap.objs.size, upd H' s'.heap.objs.size (.tup ys), J1.laid (t' := s'.toks) (fun b u e => Heap.get?_push_of_some _ e) (Nat.le_refl _) ⟨l, us, rv, ⟨_, Heap.get?_push_size _ rfl, rfl, _, rfl⟩⟩, rfl, q _ hf⟩
end
end PM
end
section
set_option Elab.async false
set_option linter.all false
set_option maxRecDepth 100000
set_option autoImplicit false
set_option maxHeartbeats 4000000
namespace PM
open PySem PySem.Spec PyProof.Rows L2 GenW

section
variable {K : PySem.W.Frag} {Tb : TBs} {ρ : List Addr} {F H H' : Hp} {h : Hm} {P : Addr}
theorem tab_ne (s : Sim K Tb ρ F h H) (hP : P ∈ Tb) {p : Addr} (hp : p ∈ ρ) : p ≠ P := fun z => by
  obtain ⟨i, hi, e⟩ := List.getElem_of_mem hp
  have hl : i < h.length := by rw [← s.len]; exact hi
  obtain ⟨p', O, e1, e2, r⟩ := s.ob i h[i] (by simp [hl])
  rw [List.getElem?_eq_getElem hi, e] at e1
  cases e1
  obtain ⟨ps, e3, _⟩ := s.tb P hP
  rw [z, e3] at e2
  cases e2
  generalize h[i] = o at r
  cases r
/-- the table has grown -/
theorem Sim.tabbed (s : Sim K Tb ρ F h H) (hP : P ∈ Tb) (t : GxR.Tabbed P H H') : Sim K Tb ρ F h H' ∧ Ext ρ F H ρ F H' := by
  have nF : ∀ b u, F b = some u → b ≠ P := fun b u e z => by rw [z, s.tf P hP] at e; cases e
  refine ⟨⟨fun b u e => by rw [t.2 b (nF b u e)]; exact s.le b u e, s.len, s.nd, s.off, fun i o e => ?_, fun P' hP' => ?_, s.tf, s.lm.mono (fun b u e _ nt => by rw [t.2 b (fun z => by obtain ⟨ps, e', _⟩ := s.tb P hP; rw [z, e'] at e; cases e; exact nt.elim (fun n => n (by rw [z]; exact hP)) (fun n => n _ rfl))]; exact e) (fun _ _ z => z)⟩, ⟨⟨[], by simp, by simp⟩, fun _ _ e => e, fun _ _ e => .inl e, fun p O e _ nt => ?_, fun p e => ?_⟩⟩
  · obtain ⟨p, O, e1, e2, r⟩ := s.ob i o e
    exact ⟨p, O, e1, by rw [t.2 p (tab_ne s hP (List.mem_of_getElem? e1))]; exact e2, r⟩
  · by_cases z : P' = P
    · rw [z]; exact t.1
    · obtain ⟨ps, e, q⟩ := s.tb P' hP'
      exact ⟨ps, by rw [t.2 P' z]; exact e, q⟩
  · obtain ⟨ps, e', _⟩ := s.tb P hP
    rw [t.2 p (fun z => by rw [z, e'] at e; cases e; exact nt _ rfl)]
    exact e
  · by_cases z : p = P
    · obtain ⟨ps, e', _⟩ := t.1
      rw [z, e']; simp
    · rw [t.2 p z]; exact e
end
/-- only these exceptions -/
def chk {α : Type} (xs : List Str) (r : Res α) : Res α := match r with
  | .exc c h => if c ∈ xs then .exc c h else .stuck
  | r => r
def chkM {α : Type} (xs : List Str) (m : M α) : M α := fun e h => chk xs (m e h)
def WOnly (K : PySem.W.Frag) (xs : List Str) (W : WX) : WX := fun cls d σ H => W cls d σ H ∧ ∃ c ∈ xs, cls = .ref (He.ga K c)
section
variable {K : PySem.W.Frag} {Tb : TBs} {W : WX} {α β γ δ : Type} {R : List Addr → Hp → α → β → Prop} {S : List Addr → Hp → γ → δ → Prop} {ρ ρ0 : List Addr} {F F0 H H0 : Hp} {σ : L2.St} {xs : List Str}
theorem post_chk {σ2 : L2.St} {r : Res α} {Q : β → Hp → Prop} (p : post K Tb W R ρ F H σ (chk xs r) Q) : post K Tb (WAt (WOnly K xs W) σ) R ρ F H σ2 r Q := by
  cases r with
  | ok v h => exact p
  | exc c h =>
    have p : post K Tb W R ρ F H σ (if c ∈ xs then Res.exc c h else Res.stuck) Q := p
    by_cases hc : c ∈ xs
    · rw [if_pos hc] at p
      exact fun ρ' F' H' x s => ⟨p ρ' F' H' x s, c, hc, rfl⟩
    · rw [if_neg hc] at p
      exact p.elim
  | stuck => exact p
theorem takesL_only {X : Cx} {L : Addr} {W : WX} {xs : List Str} (t : TakesL X L W) : TakesL X L (WOnly X.K xs W) := fun u s' ⟨a, B, sI, pins, σ, H, cls, d, e, I, nb, up, sky, na, os, ag, w⟩ => t u s' ⟨a, B, sI, pins, σ, H, cls, d, e, I, nb, up, sky, na, os, ag, w.1⟩
end
/-! ### any -/
def anyS (g : Gm) (mt : M Bool) (me : M PV) (src : Src) (e : En) : Nat → Nat → Hm → Res PV
  | 0, _, _ => .stuck
  | n + 1, k, h => match src.get h k with
    | none => .stuck
    | some none => .ok (.bl false) h
    | some (some d) => match g d e with
      | none => .stuck
      | some e1 => (mt e1 h).bind fun b h1 => if b = true then (me e1 h1).bind fun v h2 => match v with
          | .bl true => .ok (.bl true) h2
          | .bl false => anyS g mt me src e n (k + 1) h2
          | _ => .stuck
        else anyS g mt me src e n (k + 1) h1
def anyL (g : Gm) (mt : M Bool) (me : M PV) (e : En) : List PV → Hm → Res PV
  | [], h => .ok (.bl false) h
  | d :: ds, h => match g d e with
      | none => .stuck
      | some e1 => (mt e1 h).bind fun b h1 => if b = true then (me e1 h1).bind fun v h2 => match v with
          | .bl true => .ok (.bl true) h2
          | .bl false => anyL g mt me e ds h2
          | _ => .stuck
        else anyL g mt me e ds h1
theorem anyS_drop {g : Gm} {mt : M Bool} {me : M PV} {xs : List PV} {e : En} : ∀ (n k : Nat) (h : Hm), xs.length = k + n → anyS g mt me (.row xs) e (n + 1) k h = anyL g mt me e (xs.drop k) h
  | 0, k, h, l => by
    have e1 : xs[k]? = none := List.getElem?_eq_none_iff.mpr (by omega)
    have e2 : xs.drop k = [] := List.drop_eq_nil_of_le (by omega)
    rw [e2]
    simp only [anyS, Src.get, e1, anyL]
  | n + 1, k, h, l => by
    have hk : k < xs.length := by omega
    have e1 : xs[k]? = some xs[k] := List.getElem?_eq_getElem hk
    have ih := fun h => anyS_drop (g := g) (mt := mt) (me := me) (xs := xs) (e := e) n (k + 1) h (by omega)
    rw [List.drop_eq_getElem_cons hk]
    rw [anyS]
    simp only [Src.get, e1, anyL, ih]
def mAnyG (vs : List Nat) (xs : List Str) (mi : M Src) (g : Gm) (mt : M Bool) (me : M PV) : M PV := fun e h => (mi e h).bind fun src h1 => match src with
  | .row ds => anyL g (chkM xs mt) (chkM xs me) (wipeE e vs) ds h1
  | .hp i => anyS g (chkM xs mt) (chkM xs me) (.hp i) (wipeE e vs) ((Src.hp i).len h1 + 1) 0 h1
theorem mAnyG_eq {vs : List Nat} {xs : List Str} {mi : M Src} {g : Gm} {mt : M Bool} {me : M PV} {e : En} {h : Hm} : mAnyG vs xs mi g mt me e h = (mi e h).bind fun src h1 => anyS g (chkM xs mt) (chkM xs me) src (wipeE e vs) (src.len h1 + 1) 0 h1 := by
  unfold mAnyG
  cases mi e h with
  | ok src h1 =>
    cases src with
    | row ds => exact (anyS_drop ds.length 0 h1 (by simp)).symm
    | hp i => rfl
  | _ => rfl
section
variable {X : Cx} {Tb : TBs} {W : WX} {elt tg iter : Expr} {ifs : List Expr} {scope : Scope} {own : List (Str × Nat)} {ns : List Nat} {pos : Pos} {mi : M Src} {g : Gm} {mt : M Bool} {me : M PV} {c P L : Addr} {k : Nat} {xs : List Str}
theorem tGen_any {σ : L2.St} {H : Hp} {Q : VK} (hP : P ∈ Tb) (hns : ∀ i ∈ ns, i ∈ own.map (·.2)) (q : rE X.K Tb W (mAnyG (own.map (·.2)) xs mi g mt me) σ H Q) :
    tGen (rI X.K Tb W mi) (rG X.K Tb g ns) (fun σ => rT X.K Tb (WAt (WOnly X.K xs W) σ) mt) (fun σ => rE X.K Tb (WAt (WOnly X.K xs W) σ) me) (own.map (·.2)) P (fun Q => Q (.bl false)) (fun Q => yAny (Q (.bl true))) σ H Q := by
  generalize hvs : own.map (·.2) = vs at q hns
  have q : rE X.K Tb W (fun e h => (mi e h).bind fun src h1 => anyS g (chkM xs mt) (chkM xs me) src (wipeE e vs) (src.len h1 + 1) 0 h1) σ H Q := by
    obtain ⟨ρ, F, e, h, s, re, p⟩ := q
    rw [mAnyG_eq] at p
    exact ⟨ρ, F, e, h, s, re, p⟩
  obtain ⟨ρ, F, e, h, s, re, p⟩ := rd_bind (R := Wk X.K Tb) (S := RV X.K) (k := fun src e h1 => anyS g (chkM xs mt) (chkM xs me) src (wipeE e vs) (src.len h1 + 1) 0 h1) q
  refine ⟨ρ, F, e, h, s, re, post_imp p fun J H1 ⟨ρ1, F1, e1, h1, src, s1, re1, wk, p1⟩ => ⟨s1.tb P hP, fun H2 tb => ?_⟩⟩
  obtain ⟨s2, x2⟩ := s1.tabbed hP tb
  have p2 := post_ext x2 p1
  have re2 := re1.ext x2
  generalize hw : wipeE e1 vs = ew at p2
  refine ⟨fun i m H => ∃ ρ F h, Ext ρ1 F1 H2 ρ F H ∧ Sim X.K Tb ρ F h H ∧ post X.K Tb W (RV X.K) ρ1 F1 H2 σ (anyS g (chkM xs mt) (chkM xs me) src ew m i h) Q, src.len h1 + 1, ⟨ρ1, F1, h1, Ext.refl, s2, p2⟩, ?_⟩
  rintro i m H5 ⟨ρ5, F5, h5, x5, s5, p5⟩
  cases m with
  | zero => exact p5.elim
  | succ m =>
    unfold anyS at p5
    have wk5 : Wk X.K Tb ρ5 F5 src J := wk.to x5.toUp
    cases hd : src.get h5 i with
    | none => rw [hd] at p5; exact p5.elim
    | some d =>
      cases d with
      | none =>
        rw [hd] at p5
        exact .inl ⟨wk5.stop i ρ5 F5 h5 H5 Up.refl s5 hd, p5 ρ5 F5 H5 _ x5 s5 (.bl false)⟩
      | some d =>
        rw [hd] at p5
        obtain ⟨g1, g2⟩ := wk5.go i d ρ5 F5 h5 H5 Up.refl s5 hd
        refine .inr ⟨g1, fun H => ∃ ρ F h, Ext ρ1 F1 H2 ρ F H ∧ Sim X.K Tb ρ F h H ∧ post X.K Tb W (RV X.K) ρ1 F1 H2 σ (anyS g (chkM xs mt) (chkM xs me) src ew m (i + 1) h) Q, fun H' w => ⟨m, Nat.lt_succ_self m, w⟩, fun x H' y => ?_⟩
        obtain ⟨F', x6, s6, rx⟩ := g2 x H' y
        cases hg1 : g d ew with
        | none => simp only [hg1] at p5; exact p5.elim
        | some e2 =>
          simp only [hg1] at p5
          have x16 := x5.trans x6
          have re6 : RE X.K ρ5 F' H' ew (wipe σ vs) := by
            rw [← hw]
            exact (re2.ext x16).wiped vs
          refine ⟨ρ5, F', ew, h5, d, e2, s6, re6, rx, hg1, fun σ8 re8 left => ⟨wipe_idem hns (left.2.2.trans (wipe_length σ vs)) left.2.1, ?_⟩⟩
          refine ⟨ρ5, F', e2, h5, s6, re8, post_imp (post_chk (post_at p5 x16)) fun b H9 ⟨ρ9, F9, h9, b', x9, s9, eb, p9⟩ => ?_⟩
          subst eb
          have x19 := x16.trans x9
          cases b' with
          | false => exact ⟨ρ9, F9, h9, x19, s9, p9⟩
          | true =>
            simp only [if_true] at p9 ⊢
            refine ⟨ρ9, F9, e2, h9, s9, re8.ext x9, post_imp (post_chk (post_at p9 x19)) fun v H10 ⟨ρ10, F10, h10, v', x10, s10, rv, p10⟩ => ?_⟩
            have x110 := x19.trans x10
            cases rv with
            | bl b =>
              cases b with
              | true => exact ⟨true, rfl, p10 ρ10 F10 H10 _ x110 s10 (.bl true)⟩
              | false => exact ⟨false, rfl, ρ10, F10, h10, x110, s10, p10⟩
            | _ => exact p10.elim
theorem pm_gAny {p pos' : Pos} (hr : Room (k + 3) X.A) (hc : X.calm = true) (hN : X.N.Nodup) (tk : TakesL X L W) (hg : Gl X "any") (hm : X.mg "any" = none) (TB : GxR.TabB X.base X.mg c P) (hP : P ∈ Tb) (hcode : X.env.code = .ref c) (ok : GenOk X.N X.env.scope scope own)
    (hi : PMI X Tb W tg iter mi) (hns : ∀ i ∈ ns, i ∈ own.map (·.2)) (hex : ∀ c ∈ xs, NoSI X.K (.ref (He.ga X.K c)))
    (pg : AtGen X scope fun Y _ => PMG Y Tb tg g ns) (pt : ∀ W', AtGen X scope fun Y C => Room k Y.A → TakesL Y C W' → PMTs Y Tb W' ifs mt) (pe : ∀ W', AtGen X scope fun Y C => Room k Y.A → TakesL Y C W' → PM Y Tb W' elt me) (hs : ∀ v, genFold iter X.env v = pure v)
    (he : starEach [GE elt tg iter ifs scope pos] X.env = (false, eval (GE elt tg iter ifs scope pos) X.env) :: starEach [] X.env := by rfl) :
    PM X Tb W (.Call (.Name "any" p) [GE elt tg iter ifs scope pos] [] pos') (mAnyG (own.map (·.2)) xs mi g mt me) :=
  ⟨PE.imp (pe_gAny (W := WOnly X.K xs W) hr hc hN (takesL_only tk) (fun cls d σ H w => by obtain ⟨_, c, hc, rfl⟩ := w; exact hex c hc) hg hm TB hcode ok hi.pi (fun σ => ⟨fun A s H cl C code fp pn xe => (pg A s H cl C code fp pn xe).pg, fun σ A s H cl C code fp pn xe r t => (pt _ A s H cl C code fp pn xe r t).pt, fun σ A s H cl C code fp pn xe r t => (pe _ A s H cl C code fp pn xe r t).pe⟩) hs he)
    fun σ H Q q => tGen_any hP hns q⟩
end
/-! ### all -/
def allS (g : Gm) (mt : M Bool) (me : M PV) (src : Src) (e : En) : Nat → Nat → Hm → Res PV
  | 0, _, _ => .stuck
  | n + 1, k, h => match src.get h k with
    | none => .stuck
    | some none => .ok (.bl true) h
    | some (some d) => match g d e with
      | none => .stuck
      | some e1 => (mt e1 h).bind fun b h1 => if b = true then (me e1 h1).bind fun v h2 => match v with
          | .bl true => allS g mt me src e n (k + 1) h2
          | .bl false => .ok (.bl false) h2
          | _ => .stuck
        else allS g mt me src e n (k + 1) h1
def allL (g : Gm) (mt : M Bool) (me : M PV) (e : En) : List PV → Hm → Res PV
  | [], h => .ok (.bl true) h
  | d :: ds, h => match g d e with
      | none => .stuck
      | some e1 => (mt e1 h).bind fun b h1 => if b = true then (me e1 h1).bind fun v h2 => match v with
          | .bl true => allL g mt me e ds h2
          | .bl false => .ok (.bl false) h2
          | _ => .stuck
        else allL g mt me e ds h1
theorem allS_drop {g : Gm} {mt : M Bool} {me : M PV} {xs : List PV} {e : En} : ∀ (n k : Nat) (h : Hm), xs.length = k + n → allS g mt me (.row xs) e (n + 1) k h = allL g mt me e (xs.drop k) h
  | 0, k, h, l => by
    have e1 : xs[k]? = none := List.getElem?_eq_none_iff.mpr (by omega)
    have e2 : xs.drop k = [] := List.drop_eq_nil_of_le (by omega)
    rw [e2]
    simp only [allS, Src.get, e1, allL]
  | n + 1, k, h, l => by
    have hk : k < xs.length := by omega
    have e1 : xs[k]? = some xs[k] := List.getElem?_eq_getElem hk
    have ih := fun h => allS_drop (g := g) (mt := mt) (me := me) (xs := xs) (e := e) n (k + 1) h (by omega)
    rw [List.drop_eq_getElem_cons hk]
    rw [allS]
    simp only [Src.get, e1, allL, ih]
def mAllG (vs : List Nat) (xs : List Str) (mi : M Src) (g : Gm) (mt : M Bool) (me : M PV) : M PV := fun e h => (mi e h).bind fun src h1 => match src with
  | .row ds => allL g (chkM xs mt) (chkM xs me) (wipeE e vs) ds h1
  | .hp i => allS g (chkM xs mt) (chkM xs me) (.hp i) (wipeE e vs) ((Src.hp i).len h1 + 1) 0 h1
theorem mAllG_eq {vs : List Nat} {xs : List Str} {mi : M Src} {g : Gm} {mt : M Bool} {me : M PV} {e : En} {h : Hm} : mAllG vs xs mi g mt me e h = (mi e h).bind fun src h1 => allS g (chkM xs mt) (chkM xs me) src (wipeE e vs) (src.len h1 + 1) 0 h1 := by
  unfold mAllG
  cases mi e h with
  | ok src h1 =>
    cases src with
    | row ds => exact (allS_drop ds.length 0 h1 (by simp)).symm
    | hp i => rfl
  | _ => rfl
section
variable {X : Cx} {Tb : TBs} {W : WX} {elt tg iter : Expr} {ifs : List Expr} {scope : Scope} {own : List (Str × Nat)} {ns : List Nat} {pos : Pos} {mi : M Src} {g : Gm} {mt : M Bool} {me : M PV} {c P L : Addr} {k : Nat} {xs : List Str}
theorem tGen_all {σ : L2.St} {H : Hp} {Q : VK} (hP : P ∈ Tb) (hns : ∀ i ∈ ns, i ∈ own.map (·.2)) (q : rE X.K Tb W (mAllG (own.map (·.2)) xs mi g mt me) σ H Q) :
    tGen (rI X.K Tb W mi) (rG X.K Tb g ns) (fun σ => rT X.K Tb (WAt (WOnly X.K xs W) σ) mt) (fun σ => rE X.K Tb (WAt (WOnly X.K xs W) σ) me) (own.map (·.2)) P (fun Q => Q (.bl true)) (fun Q => yAll (Q (.bl false))) σ H Q := by
  generalize hvs : own.map (·.2) = vs at q hns
  have q : rE X.K Tb W (fun e h => (mi e h).bind fun src h1 => allS g (chkM xs mt) (chkM xs me) src (wipeE e vs) (src.len h1 + 1) 0 h1) σ H Q := by
    obtain ⟨ρ, F, e, h, s, re, p⟩ := q
    rw [mAllG_eq] at p
    exact ⟨ρ, F, e, h, s, re, p⟩
  obtain ⟨ρ, F, e, h, s, re, p⟩ := rd_bind (R := Wk X.K Tb) (S := RV X.K) (k := fun src e h1 => allS g (chkM xs mt) (chkM xs me) src (wipeE e vs) (src.len h1 + 1) 0 h1) q
  refine ⟨ρ, F, e, h, s, re, post_imp p fun J H1 ⟨ρ1, F1, e1, h1, src, s1, re1, wk, p1⟩ => ⟨s1.tb P hP, fun H2 tb => ?_⟩⟩
  obtain ⟨s2, x2⟩ := s1.tabbed hP tb
  have p2 := post_ext x2 p1
  have re2 := re1.ext x2
  generalize hw : wipeE e1 vs = ew at p2
  refine ⟨fun i m H => ∃ ρ F h, Ext ρ1 F1 H2 ρ F H ∧ Sim X.K Tb ρ F h H ∧ post X.K Tb W (RV X.K) ρ1 F1 H2 σ (allS g (chkM xs mt) (chkM xs me) src ew m i h) Q, src.len h1 + 1, ⟨ρ1, F1, h1, Ext.refl, s2, p2⟩, ?_⟩
  rintro i m H5 ⟨ρ5, F5, h5, x5, s5, p5⟩
  cases m with
  | zero => exact p5.elim
  | succ m =>
    unfold allS at p5
    have wk5 : Wk X.K Tb ρ5 F5 src J := wk.to x5.toUp
    cases hd : src.get h5 i with
    | none => rw [hd] at p5; exact p5.elim
    | some d =>
      cases d with
      | none =>
        rw [hd] at p5
        exact .inl ⟨wk5.stop i ρ5 F5 h5 H5 Up.refl s5 hd, p5 ρ5 F5 H5 _ x5 s5 (.bl true)⟩
      | some d =>
        rw [hd] at p5
        obtain ⟨g1, g2⟩ := wk5.go i d ρ5 F5 h5 H5 Up.refl s5 hd
        refine .inr ⟨g1, fun H => ∃ ρ F h, Ext ρ1 F1 H2 ρ F H ∧ Sim X.K Tb ρ F h H ∧ post X.K Tb W (RV X.K) ρ1 F1 H2 σ (allS g (chkM xs mt) (chkM xs me) src ew m (i + 1) h) Q, fun H' w => ⟨m, Nat.lt_succ_self m, w⟩, fun x H' y => ?_⟩
        obtain ⟨F', x6, s6, rx⟩ := g2 x H' y
        cases hg1 : g d ew with
        | none => simp only [hg1] at p5; exact p5.elim
        | some e2 =>
          simp only [hg1] at p5
          have x16 := x5.trans x6
          have re6 : RE X.K ρ5 F' H' ew (wipe σ vs) := by
            rw [← hw]
            exact (re2.ext x16).wiped vs
          refine ⟨ρ5, F', ew, h5, d, e2, s6, re6, rx, hg1, fun σ8 re8 left => ⟨wipe_idem hns (left.2.2.trans (wipe_length σ vs)) left.2.1, ?_⟩⟩
          refine ⟨ρ5, F', e2, h5, s6, re8, post_imp (post_chk (post_at p5 x16)) fun b H9 ⟨ρ9, F9, h9, b', x9, s9, eb, p9⟩ => ?_⟩
          subst eb
          have x19 := x16.trans x9
          cases b' with
          | false => exact ⟨ρ9, F9, h9, x19, s9, p9⟩
          | true =>
            simp only [if_true] at p9 ⊢
            refine ⟨ρ9, F9, e2, h9, s9, re8.ext x9, post_imp (post_chk (post_at p9 x19)) fun v H10 ⟨ρ10, F10, h10, v', x10, s10, rv, p10⟩ => ?_⟩
            have x110 := x19.trans x10
            cases rv with
            | bl b =>
              cases b with
              | true => exact ⟨true, rfl, ρ10, F10, h10, x110, s10, p10⟩
              | false => exact ⟨false, rfl, p10 ρ10 F10 H10 _ x110 s10 (.bl false)⟩
            | _ => exact p10.elim
theorem pm_gAll {p pos' : Pos} (hr : Room (k + 3) X.A) (hc : X.calm = true) (hN : X.N.Nodup) (tk : TakesL X L W) (hg : Gl X "all") (hm : X.mg "all" = none) (TB : GxR.TabB X.base X.mg c P) (hP : P ∈ Tb) (hcode : X.env.code = .ref c) (ok : GenOk X.N X.env.scope scope own)
    (hi : PMI X Tb W tg iter mi) (hns : ∀ i ∈ ns, i ∈ own.map (·.2)) (hex : ∀ c ∈ xs, NoSI X.K (.ref (He.ga X.K c)))
    (pg : AtGen X scope fun Y _ => PMG Y Tb tg g ns) (pt : ∀ W', AtGen X scope fun Y C => Room k Y.A → TakesL Y C W' → PMTs Y Tb W' ifs mt) (pe : ∀ W', AtGen X scope fun Y C => Room k Y.A → TakesL Y C W' → PM Y Tb W' elt me) (hs : ∀ v, genFold iter X.env v = pure v)
    (he : starEach [GE elt tg iter ifs scope pos] X.env = (false, eval (GE elt tg iter ifs scope pos) X.env) :: starEach [] X.env := by rfl) :
    PM X Tb W (.Call (.Name "all" p) [GE elt tg iter ifs scope pos] [] pos') (mAllG (own.map (·.2)) xs mi g mt me) :=
  ⟨PE.imp (pe_gAll (W := WOnly X.K xs W) hr hc hN (takesL_only tk) (fun cls d σ H w => by obtain ⟨_, c, hc, rfl⟩ := w; exact hex c hc) hg hm TB hcode ok hi.pi (fun σ => ⟨fun A s H cl C code fp pn xe => (pg A s H cl C code fp pn xe).pg, fun σ A s H cl C code fp pn xe r t => (pt _ A s H cl C code fp pn xe r t).pt, fun σ A s H cl C code fp pn xe r t => (pe _ A s H cl C code fp pn xe r t).pe⟩) hs he)
    fun σ H Q q => tGen_all hP hns q⟩
end
end PM
end
section
set_option Elab.async false
set_option linter.all false
set_option maxRecDepth 100000
set_option autoImplicit false
set_option maxHeartbeats 4000000
namespace PM
open PySem PySem.Spec PyProof.Rows L2 GenW

/-- all that a generator expression hands out, then fin -/
def mGenL (vs : List Nat) (xs : List Str) (fin : List PV → Hm → Res PV) (mi : M Src) (g : Gm) (mt : M Bool) (me : M PV) : M PV := fun e h => (mi e h).bind fun src h1 => (compR g (chkM xs mt) (chkM xs me) (wipeE e vs) src h1).bind fun ys h2 => fin ys h2
/-- fin, as the layer has it -/
def FinR (K : PySem.W.Frag) (Tb : TBs) (W : WX) (fin : List PV → Hm → Res PV) (Fin : VK → List V → Hp → Prop) : Prop := ∀ ρ0 F0 H0 ρ F H h σ S ys acc Q, Ext ρ0 F0 H0 ρ F H → Sim K Tb ρ F h H → Gb ρ F H S ys → H0 S = none → RVs K ρ F acc ys → acc.length ≤ 1000001 →
  post K Tb W (RV K) ρ0 F0 H0 σ (fin acc h) Q → Fin Q ys H
def finTup : List PV → Hm → Res PV := fun ys h => .ok (.tup ys) h
section
variable {K : PySem.W.Frag} {Tb : TBs} {W : WX}
theorem finTup_ok : FinR K Tb W finTup fun Q ys H => ys.length ≤ sizeLine ∧ ∀ T, H T = none → Q (.ref T) (upd H T (.tup ys)) := by
  intro ρ0 F0 H0 ρ F H h σ S ys acc Q x s g n0 r l p
  refine ⟨by rw [← r.len]; exact Nat.le_trans l (by decide), fun T hT => ?_⟩
  obtain ⟨s1, x1⟩ := s.laid (o := .tup ys) hT (fun ps z => by cases z)
  exact p _ _ _ _ (x.trans x1) s1 (.tup (.inl (.inl upd_same)) (x1.rvs r))
end
section
variable {X : Cx} {Tb : TBs} {W : WX} {elt tg iter : Expr} {ifs : List Expr} {scope : Scope} {own : List (Str × Nat)} {ns : List Nat} {pos : Pos} {mi : M Src} {g : Gm} {mt : M Bool} {me : M PV} {c P L : Addr} {k : Nat} {xs : List Str} {fin : List PV → Hm → Res PV} {Fin : VK → List V → Hp → Prop}
theorem tGenL_of {σ : L2.St} {H : Hp} {Q : VK} (hf : FinR X.K Tb W fin Fin) (hP : P ∈ Tb) (hns : ∀ i ∈ ns, i ∈ own.map (·.2)) (q : rE X.K Tb W (mGenL (own.map (·.2)) xs fin mi g mt me) σ H Q) :
    tGenL (rI X.K Tb W mi) (rG X.K Tb g ns) (fun σ => rT X.K Tb (WAt (WOnly X.K xs W) σ) mt) (fun σ => rE X.K Tb (WAt (WOnly X.K xs W) σ) me) (own.map (·.2)) P Fin σ H Q := by
  generalize hvs : own.map (·.2) = vs at q hns
  obtain ⟨ρ, F, e, h, s, re, p⟩ := rd_bind (R := Wk X.K Tb) (S := RV X.K) (k := fun src e h1 => (compR g (chkM xs mt) (chkM xs me) (wipeE e vs) src h1).bind fun ys h2 => fin ys h2) q
  refine ⟨ρ, F, e, h, s, re, post_imp p fun J H1 ⟨ρ1, F1, e1, h1, src, s1, re1, wk, p1⟩ => ⟨s1.tb P hP, fun H2 tb => ?_⟩⟩
  obtain ⟨s2, x2⟩ := s1.tabbed hP tb
  have p2 := post_ext x2 p1
  have re2 := re1.ext x2
  refine ⟨src.len h1 + 1, fun D hD => ?_⟩
  rw [compR_eq] at p2
  split at p2
  case isFalse => exact p2.elim
  rename_i hlen
  generalize hw : wipeE e1 vs = ew at p2
  have f1 := s2.fnone hD
  have r1 := s2.notin hD
  refine ⟨fun i m H => ∃ ρ F h ys acc, Ext ρ1 F1 H2 ρ F H ∧ Sim X.K Tb ρ F h H ∧ Gb ρ F H D ys ∧ RVs X.K ρ F acc ys ∧ acc.length ≤ i ∧ i + m ≤ src.len h1 + 1 ∧ post X.K Tb W (RV X.K) ρ1 F1 H2 σ ((compS g (chkM xs mt) (chkM xs me) src ew m i h).bind fun ys h2 => fin (acc ++ ys) h2) Q,
    ⟨ρ1, F1, h1, [], [], Ext.refl.gb hD, s2.gb f1 r1 (.inl hD), ⟨upd_same, f1, r1⟩, .nil, Nat.le_refl _, by omega, p2⟩, ?_⟩
  rintro i m H5 ⟨ρ5, F5, h5, ys, acc, x5, s5, g5, ra, hai, him, p5⟩
  cases m with
  | zero => exact p5.elim
  | succ m =>
    unfold compS at p5
    have wk5 : Wk X.K Tb ρ5 F5 src J := wk.to x5.toUp
    cases hd : src.get h5 i with
    | none => rw [hd] at p5; exact p5.elim
    | some d =>
      cases d with
      | none =>
        rw [hd] at p5
        refine .inl ⟨wk5.stop i ρ5 F5 h5 H5 Up.refl s5 hd, ys, g5.at_, ?_⟩
        exact hf ρ1 F1 H2 ρ5 F5 H5 h5 σ D ys acc Q x5 s5 g5 hD ra (by omega) (by simpa [Res.bind] using p5)
      | some d =>
        rw [hd] at p5
        obtain ⟨g1, g2⟩ := wk5.go i d ρ5 F5 h5 H5 Up.refl s5 hd
        refine .inr ⟨g1, fun H => ∃ ρ F h ys acc, Ext ρ1 F1 H2 ρ F H ∧ Sim X.K Tb ρ F h H ∧ Gb ρ F H D ys ∧ RVs X.K ρ F acc ys ∧ acc.length ≤ i + 1 ∧ (i + 1) + m ≤ src.len h1 + 1 ∧ post X.K Tb W (RV X.K) ρ1 F1 H2 σ ((compS g (chkM xs mt) (chkM xs me) src ew m (i + 1) h).bind fun ys h2 => fin (acc ++ ys) h2) Q,
          fun H' w => ⟨m, Nat.lt_succ_self m, w⟩, fun x H' y => ?_⟩
        obtain ⟨F', x6, s6, rx⟩ := g2 x H' y
        cases hg1 : g d ew with
        | none => simp only [hg1] at p5; exact p5.elim
        | some e2 =>
          simp only [hg1] at p5
          have g6 := g5.ext x6
          have x16 := x5.trans x6
          have re6 : RE X.K ρ5 F' H' ew (wipe σ vs) := by
            rw [← hw]
            exact (re2.ext x16).wiped vs
          refine ⟨ρ5, F', ew, h5, d, e2, s6, re6, rx, hg1, fun σ8 re8 left => ⟨wipe_idem hns (left.2.2.trans (wipe_length σ vs)) left.2.1, ?_⟩⟩
          rw [Res.bind_assoc] at p5
          refine ⟨ρ5, F', e2, h5, s6, re8, post_imp (post_chk (post_at p5 x16)) fun b H9 ⟨ρ9, F9, h9, b', x9, s9, eb, p9⟩ => ?_⟩
          subst eb
          have g9 := g6.ext x9
          have x19 := x16.trans x9
          have ra9 : RVs X.K ρ9 F9 acc ys := x9.rvs (x6.rvs ra)
          cases b' with
          | false => exact ⟨ρ9, F9, h9, ys, acc, x19, s9, g9, ra9, Nat.le_succ_of_le hai, by omega, p9⟩
          | true =>
            simp only [if_true] at p9 ⊢
            rw [Res.bind_assoc] at p9
            refine ⟨ρ9, F9, e2, h9, s9, re8.ext x9, post_imp (post_chk (post_at p9 x19)) fun v H10 ⟨ρ10, F10, h10, v', x10, s10, rv, p10⟩ => ?_⟩
            have g10 := g9.ext x10
            have x110 := x19.trans x10
            have ra10 := x10.rvs ra9
            have hl : ys.length < sizeLine := Nat.lt_of_lt_of_le (by rw [← ra10.len]; omega : ys.length < 1000001 + 1) (by decide)
            refine ⟨ys, g10.at_, hl, ρ10, F10, h10, ys ++ [v], acc ++ [v'], x110.gb hD, s10.gb g10.nf g10.nr (.inr ⟨_, g10.at_⟩), ⟨upd_same, g10.nf, g10.nr⟩, ra10.app (.cons rv .nil), by simp; omega, by omega, ?_⟩
            rw [Res.bind_assoc] at p10
            simpa [Res.bind] using p10
theorem pm_gTup {p pos' : Pos} (hr : Room (k + 5) X.A) (hc : X.calm = true) (hN : X.N.Nodup) (tk : TakesL X L W) (hg : Gl X "tuple") (hm : X.mg "tuple" = none) (TB : GxR.TabB X.base X.mg c P) (hP : P ∈ Tb) (hcode : X.env.code = .ref c) (ok : GenOk X.N X.env.scope scope own)
    (hi : PMI X Tb W tg iter mi) (hns : ∀ i ∈ ns, i ∈ own.map (·.2)) (hex : ∀ c ∈ xs, NoSI X.K (.ref (He.ga X.K c)))
    (pg : AtGen X scope fun Y _ => PMG Y Tb tg g ns) (pt : ∀ W', AtGen X scope fun Y C => Room k Y.A → TakesL Y C W' → PMTs Y Tb W' ifs mt) (pe : ∀ W', AtGen X scope fun Y C => Room k Y.A → TakesL Y C W' → PM Y Tb W' elt me) (hs : ∀ v, genFold iter X.env v = pure v)
    (he : starEach [GE elt tg iter ifs scope pos] X.env = (false, eval (GE elt tg iter ifs scope pos) X.env) :: starEach [] X.env := by rfl) :
    PM X Tb W (.Call (.Name "tuple" p) [GE elt tg iter ifs scope pos] [] pos') (mGenL (own.map (·.2)) xs finTup mi g mt me) :=
  ⟨PE.imp (pe_gTup (W := WOnly X.K xs W) hr hc hN (takesL_only tk) (fun cls d σ H w => by obtain ⟨_, c, hc, rfl⟩ := w; exact hex c hc) hg hm TB hcode ok hi.pi (fun σ => ⟨fun A s H cl C code fp pn xe => (pg A s H cl C code fp pn xe).pg, fun σ A s H cl C code fp pn xe r t => (pt _ A s H cl C code fp pn xe r t).pt, fun σ A s H cl C code fp pn xe r t => (pe _ A s H cl C code fp pn xe r t).pe⟩) hs he)
    fun σ H Q q => tGenL_of finTup_ok hP hns q⟩
end
end PM
end
section
set_option Elab.async false
set_option linter.all false
set_option maxRecDepth 100000
set_option autoImplicit false
set_option maxHeartbeats 4000000
namespace PM
open PySem PySem.Spec PyProof.Rows L2

/-! ### a + b of any kind -/
theorem R2or {X : Cx} {f : Value → Value → Sem Value} {r r' : R2} (h : OpR X f r) (h' : OpR X f r') : OpR X f (fun x y H Q => r x y H Q ∨ r' x y H Q) := fun pins s σ H x y v u Q I rx ry q => q.elim (h pins s σ H x y v u Q I rx ry) (h' pins s σ H x y v u Q I rx ry)
/-- lists, of any kind -/
def rCatL (K : PySem.W.Frag) : R2 := fun x y H Q => ∃ a b xs ys, x = .ref a ∧ y = .ref b ∧ SqL K H a xs ∧ SqL K H b ys ∧ xs.length + ys.length ≤ sizeLine ∧ ∀ p, H p = none → Q (.ref p) (upd H p (.lst (xs ++ ys)))
def fAdd : PV → PV → Hm → Res PV := fun x y h => match x, y with
  | .int i, .int j => .ok (.int (i + j)) h
  | .str i, .str j => if i.length + j.length ≤ 1000000 then .ok (.str (i ++ j)) h else .stuck
  | .tup xs, .tup ys => if xs.length + ys.length ≤ 1000000 then .ok (.tup (xs ++ ys)) h else .stuck
  | .int i, .bl b => .ok (.int (i + b2i b)) h
  | x, y => match listOf h x, listOf h y with
    | some xs, some ys => if xs.length + ys.length ≤ 1000000 then .ok (.lst (xs ++ ys)) h else .stuck
    | _, _ => .stuck
section
variable {X : Cx} {Tb : TBs} {W : WX} {a b : Expr} {ma mb : M PV} {pos : Pos} {k : Nat}
theorem op_catL : OpR X (binaryOp .Add) (rCatL X.K) := by
  intro pins s σ H x y v u Q I rx ry h
  obtain ⟨a, b, xs, ys, rfl, rfl, ha, hb, hz, q⟩ := h
  cases rx
  cases ry
  obtain ⟨its, r1, p1, z1⟩ := I.list ha
  obtain ⟨jts, r2, p2, z2⟩ := I.list hb
  have l1 := r1.length
  have l2 := r2.length
  obtain ⟨⟨c1, dd, dt, sl⟩, ho, hc, n, hd⟩ := p1.isList
  obtain ⟨⟨c2, dd2, dt2, sl2⟩, ho2, hc2, n2, hd2⟩ := p2.isList
  simp only at hc hd hc2 hd2
  subst hc hd hc2 hd2
  have e : its.toArray ++ jts.toArray = (its ++ jts).toArray := by simp
  refine concat_meets ⟨_, ho, rfl⟩ ⟨_, ho2, rfl⟩ noFill_list_add seq_list_add PySem.F.slot_list_add PySem.F.entry_list_add (PySem.F.args_list_add_2 _ _) (list_addW a b its.toArray jts.toArray n n2 dd dd2 sl sl2 (by rw [List.size_toArray, List.size_toArray]; omega)) ⟨ho, ho2, ?_⟩
  rw [e]
  exact ⟨.ref _, _, I.lnew (t' := s.toks) (r1.append r2) (by rw [List.length_append]; omega), rfl, q _ I.fresh⟩
theorem opm_add : OpM X.K Tb W fAdd (fun x y H Q => rI0 (fun i j => .int (i + j)) x y H Q ∨ (∃ i j, x = .str i ∧ y = .str j ∧ i.length + j.length ≤ sizeLine ∧ Q (.str (i ++ j)) H) ∨ rCatA X.K x y H Q ∨ rCatL X.K x y H Q ∨ ∃ i k, x = .int i ∧ y = .bl k ∧ Q (.int (i + b2i k)) H) := by
  intro ρ F h H σ x y v w Q s rx ry p
  have lists : ∀ {x y : PV} {v w : V}, RV X.K ρ F x v → RV X.K ρ F y w → post X.K Tb W (RV X.K) ρ F H σ (match listOf h x, listOf h y with
    | some xs, some ys => if xs.length + ys.length ≤ 1000000 then .ok (.lst (xs ++ ys)) h else .stuck
    | _, _ => .stuck) Q → rCatL X.K v w H Q := fun {x y v w} rx ry p => by
    split at p
    · rename_i xs ys ex ey
      split at p
      · rename_i c
        obtain ⟨a, vs, rfl, qa, ra⟩ := listOf_at s rx ex
        obtain ⟨b, ws, rfl, qb, rb⟩ := listOf_at s ry ey
        refine ⟨a, b, vs, ws, rfl, rfl, qa, qb, by rw [← ra.len, ← rb.len]; exact mil c, fun t ht => ?_⟩
        obtain ⟨s1, x1⟩ := s.laid (o := .lst (vs ++ ws)) ht (fun ps z => by cases z)
        exact p _ _ _ _ x1 s1 (.lst (.inl (.inl upd_same)) (x1.rvs (ra.app rb)))
      · exact p.elim
    · exact p.elim
  unfold fAdd at p
  split at p
  · cases rx; cases ry
    exact .inl ⟨_, _, rfl, rfl, post_ret p s (.int _)⟩
  · cases rx; cases ry
    split at p
    · rename_i c
      exact .inr (.inl ⟨_, _, rfl, rfl, mil c, post_ret p s (.str _)⟩)
    · exact p.elim
  · rename_i xs ys
    cases rx with
    | @tup a vs _ qa ra =>
      cases ry with
      | @tup b ws _ qb rb =>
        split at p
        · rename_i c
          refine .inr (.inr (.inl ⟨a, b, vs, ws, rfl, rfl, sqT_le s.le qa, sqT_le s.le qb, by rw [← ra.len, ← rb.len]; exact mil c, fun e => ?_, fun e1 e2 => ?_, fun e1 e2 t ht => ?_⟩))
          · subst e
            cases ra
            exact post_ret p s (.tup qb rb)
          · subst e2
            cases rb
            rw [List.append_nil] at p
            exact post_ret p s (.tup qa ra)
          · obtain ⟨s1, x1⟩ := s.laid (o := .tup (vs ++ ws)) ht (fun ps z => by cases z)
            exact p _ _ _ _ x1 s1 (.tup (.inl (.inl upd_same)) (x1.rvs (ra.app rb)))
        · exact p.elim
  · cases rx; cases ry
    exact .inr (.inr (.inr (.inr ⟨_, _, rfl, rfl, post_ret p s (.int _)⟩)))
  · exact .inr (.inr (.inr (.inl (lists rx ry p))))
theorem pm_add (ha : PM X Tb W a ma) (hb : PM X Tb W b mb) : PM X Tb W (.BinOp a .Add b pos) (mOp fAdd ma mb) := pm_op (R2or op_add (R2or op_add_str (R2or op_catA (R2or op_catL op_add_ib)))) opm_add ha hb
/-! ### bools less bools -/
theorem sub_bools {prog : Program} {w : World} {A : Around} {E : Value → Shared → Prop} {s : Shared} {p q : Bool} {Q : Value → Shared → Prop} (h : Q (.int (b2i p - b2i q) s.toks) { s with toks := s.toks + 1 }) : wpAny (model prog w) A (binaryOp .Sub (.bool p) (.bool q)) Q E s := by
  have g : Gives (Builtin.«int.__sub__» ⟨[.bool p, .bool q], []⟩) (.int (b2i p - b2i q)) := .of_wp fun M A E s Q h => by
    obtain ⟨hp, g, d, tk, os⟩ := s
    cases p <;> cases q <;> (wp_walk; exact ⟨_, rfl, h⟩)
  exact binaryOp_gives (op := .Sub) (typeIs_bool' s p) (typeIs_bool' s q) F.fills_bool_sub F.slot_bool_sub F.entry_int_sub (F.args_int_sub_2 _ _) g trivial h
theorem op_subB : OpR X (binaryOp .Sub) (fun x y H Q => ∃ i j, x = .bl i ∧ y = .bl j ∧ Q (.int (b2i i - b2i j)) H) := by
  intro pins s σ H x y v u Q I rx ry h
  obtain ⟨i, j, rfl, rfl, q⟩ := h
  cases rx
  cases ry
  exact sub_bools ⟨.int _, H, I.tok _, ⟨_, rfl⟩, q⟩
def gSubA : PV → PV → Option PV
  | .int i, .int j => some (.int (i - j))
  | .bl i, .bl j => some (.int (b2i i - b2i j))
  | _, _ => none
theorem pm_subA (ha : PM X Tb W a ma) (hb : PM X Tb W b mb) : PM X Tb W (.BinOp a .Sub b pos) (mOp (pure2 gSubA) ma mb) := pm_op (R2or op_sub op_subB) (pure2_of fun ρ F h H x y v w z s rx ry e => by
  cases rx <;> cases ry <;> simp only [gSubA] at e <;> cases e
  · exact ⟨_, .int _, fun Q q => .inr ⟨_, _, rfl, rfl, q⟩⟩
  · exact ⟨_, .int _, fun Q q => .inl ⟨_, _, rfl, rfl, q⟩⟩) ha hb
/-! ### powers of small numbers -/
def gPow : PV → PV → Option PV
  | .int i, .int j => if 0 ≤ j ∧ j ≤ 1000000 ∧ i.natAbs < 2 ^ 64 then some (.int (i ^ j.toNat)) else none
  | _, _ => none
theorem pm_pow (ha : PM X Tb W a ma) (hb : PM X Tb W b mb) : PM X Tb W (.BinOp a .Pow b pos) (mOp (pure2 gPow) ma mb) := pm_op op_pow (pure2_of fun ρ F h H x y v w z s rx ry e => by
  cases rx <;> cases ry <;> simp only [gPow] at e <;> try cases e
  split at e
  · rename_i c
    cases e
    exact ⟨_, .int _, fun Q q => ⟨_, _, rfl, rfl, c, q⟩⟩
  · cases e) ha hb
/-! ### built-in calls -/
def CalM (K : PySem.W.Frag) (Tb : TBs) (W : WX) (f : List PV → Hm → Res PV) (r : List V → Hp → VK → Prop) : Prop := ∀ ρ F h H σ xs vs Q, Sim K Tb ρ F h H → RVs K ρ F xs vs → post K Tb W (RV K) ρ F H σ (f xs h) Q → r vs H Q
theorem callOr {v : Value} {r r' : List V → Hp → VK → Prop} (h : CallR X v r) (h' : CallR X v r') : CallR X v (fun xs H Q => r xs H Q ∨ r' xs H Q) := fun pins s σ H xs us Q I rx q => q.elim (h pins s σ H xs us Q I rx) (h' pins s σ H xs us Q I rx)
section
variable {id T : String} {x : Str} {p : Pos} {e : Expr} {es : List Expr} {ms : M (List PV)} {f : List PV → Hm → Res PV} {r : List V → Hp → VK → Prop}
theorem mCall_rA {σ : L2.St} {H : Hp} {Q : VK} (hf : CalM X.K Tb W f r) (q : rE X.K Tb W (mCall f ms) σ H Q) : rA X.K Tb W ms σ H fun vs H1 => r vs H1 Q :=
  rA_bind (f := f) (r := r) (fun ρ F h H xs vs Q s rx p => hf ρ F h H σ xs vs Q s rx p) q
theorem pm_callB (hc : CallR X (.builtin id) r) (hf : CalM X.K Tb W f r) (hg : Gl X x) (hm : X.mg x = none) (hv : bootBuiltins x = some (.builtin id)) (ha : PMA X Tb W (e :: es) ms) (hn : x ≠ "__name__" := by decide) (hdb : (x == ("__debug__" : Str)) = false := by decide)
    (he : starEach (e :: es) X.env = (false, eval e X.env) :: starEach es X.env := by rfl) (hpl : (backTo pos (starEach es X.env)).any (·.1) = false := by rfl) : PM X Tb W (.Call (.Name x p) (e :: es) [] pos) (mCall f ms) :=
  ⟨PE.imp (pe_callB hc hg hm hv ha.pa hn hdb he hpl) fun σ H Q q => mCall_rA hf q⟩
theorem pm_callTy (hc : CallR X (.type T) r) (hf : CalM X.K Tb W f r) (hg : Gl X x) (hm : X.mg x = none) (hv : bootBuiltins x = some (.type T)) (ha : PMA X Tb W (e :: es) ms) (hn : x ≠ "__name__" := by decide) (hdb : (x == ("__debug__" : Str)) = false := by decide)
    (he : starEach (e :: es) X.env = (false, eval e X.env) :: starEach es X.env := by rfl) (hpl : (backTo pos (starEach es X.env)).any (·.1) = false := by rfl) : PM X Tb W (.Call (.Name x p) (e :: es) [] pos) (mCall f ms) :=
  ⟨PE.imp (pe_callTy hc hg hm hv ha.pa hn hdb he hpl) fun σ H Q q => mCall_rA hf q⟩
end
def fLen : List PV → Hm → Res PV := fun xs h => match xs with
  | [.str s] => if s.length ≤ 1000000 then .ok (.int s.length) h else .stuck
  | [.tup ys] => .ok (.int ys.length) h
  | [x] => match listOf h x with
    | some ys => .ok (.int ys.length) h
    | none => .stuck
  | _ => .stuck
theorem fLen_ok : CalM X.K Tb W fLen (fun xs H Q => ∃ x n, xs = [x] ∧ LenV X.K x H n ∧ Q (.int n) H) := by
  intro ρ F h H σ xs vs Q s rx p
  unfold fLen at p
  split at p
  · cases rx with
    | cons r rr =>
      cases rr
      cases r
      split at p
      · rename_i c
        exact ⟨_, _, rfl, ⟨mil c, rfl⟩, post_ret p s (.int _)⟩
      · exact p.elim
  · cases rx with
    | cons r rr =>
      cases rr
      cases r with
      | tup q r => exact ⟨_, _, rfl, .inr ⟨_, sqT_le s.le q, r.len⟩, post_ret p s (.int _)⟩
  · cases rx with
    | cons r rr =>
      cases rr
      split at p
      · rename_i ys hy
        obtain ⟨a, ws, rfl, q, r'⟩ := listOf_at s r hy
        exact ⟨_, _, rfl, .inl ⟨ws, q, r'.len⟩, post_ret p s (.int _)⟩
      · exact p.elim
  · exact p.elim
def fAbs : List PV → Hm → Res PV := fun xs h => match xs with
  | [.int i] => .ok (.int (if i < 0 then -i else i)) h
  | _ => .stuck
theorem fAbs_ok : CalM X.K Tb W fAbs (fun xs H Q => ∃ i, xs = [.int i] ∧ Q (.int (if i < 0 then -i else i)) H) := by
  intro ρ F h H σ xs vs Q s rx p
  unfold fAbs at p
  split at p
  · cases rx with
    | cons r rr =>
      cases rr
      cases r
      exact ⟨_, rfl, post_ret p s (.int _)⟩
  · exact p.elim
def fInt : List PV → Hm → Res PV := fun xs h => match xs with
  | [.int i] => .ok (.int i) h
  | [.bl k] => .ok (.int (if k then 1 else 0)) h
  | [.str a] => match PySem.intText? a with
    | some n => if a.length ≤ 640 then .ok (.int n) h else .stuck
    | none => .stuck
  | _ => .stuck
theorem fInt_ok : CalM X.K Tb W fInt (fun xs H Q => ((∃ i, xs = [.int i] ∧ Q (.int i) H) ∨ ∃ k, xs = [.bl k] ∧ Q (.int (if k then 1 else 0)) H) ∨ ∃ a n, xs = [.str a] ∧ PySem.intText? a = some n ∧ a.length ≤ 640 ∧ Q (.int n) H) := by
  intro ρ F h H σ xs vs Q s rx p
  unfold fInt at p
  split at p
  · cases rx with
    | cons r rr =>
      cases rr
      cases r
      exact .inl (.inl ⟨_, rfl, post_ret p s (.int _)⟩)
  · cases rx with
    | cons r rr =>
      cases rr
      cases r
      exact .inl (.inr ⟨_, rfl, post_ret p s (.int _)⟩)
  · cases rx with
    | cons r rr =>
      cases rr
      cases r
      split at p
      · rename_i n e
        split at p
        · rename_i c
          exact .inr ⟨_, n, rfl, e, c, post_ret p s (.int _)⟩
        · exact p.elim
      · exact p.elim
  · exact p.elim
def fStr : List PV → Hm → Res PV := fun xs h => match xs with
  | [.int i] => if i.natAbs.log2 < 1920 then .ok (.str (toString i)) h else .stuck
  | [.str a] => .ok (.str a) h
  | _ => .stuck
theorem fStr_ok : CalM X.K Tb W fStr (fun xs H Q => (∃ i, xs = [.int i] ∧ i.natAbs.log2 < 1920 ∧ Q (.str (toString i)) H) ∨ ∃ a, xs = [.str a] ∧ Q (.str a) H) := by
  intro ρ F h H σ xs vs Q s rx p
  unfold fStr at p
  split at p
  · cases rx with
    | cons r rr =>
      cases rr
      cases r
      split at p
      · rename_i c
        exact .inl ⟨_, rfl, c, post_ret p s (.str _)⟩
      · exact p.elim
  · cases rx with
    | cons r rr =>
      cases rr
      cases r
      exact .inr ⟨_, rfl, post_ret p s (.str _)⟩
  · exact p.elim
def fList : List PV → Hm → Res PV := fun xs h => match xs with
  | [.tup ys] => .ok (.lst ys) h
  | [x] => match listOf h x with
    | some ys => .ok (.lst ys) h
    | none => .stuck
  | _ => .stuck
theorem fList_ok : CalM X.K Tb W fList (fun xs H Q => ∃ p ys, xs = [.ref p] ∧ (SqL X.K H p ys ∨ SqT X.K H p ys) ∧ ∀ l, H l = none → Q (.ref l) (upd H l (.lst ys))) := by
  intro ρ F h H σ xs vs Q s rx p
  unfold fList at p
  split at p
  · cases rx with
    | cons r rr =>
      cases rr
      cases r with
      | @tup a vs _ q r =>
        refine ⟨_, _, rfl, .inr (sqT_le s.le q), fun l hl => ?_⟩
        obtain ⟨s1, x1⟩ := s.laid (o := .lst vs) hl (fun ps z => by cases z)
        exact p _ _ _ _ x1 s1 (.lst (.inl (.inl upd_same)) (x1.rvs r))
  · cases rx with
    | cons r rr =>
      cases rr
      split at p
      · rename_i ys hy
        obtain ⟨a, ws, rfl, q, r'⟩ := listOf_at s r hy
        refine ⟨_, _, rfl, .inl q, fun l hl => ?_⟩
        obtain ⟨s1, x1⟩ := s.laid (o := .lst ws) hl (fun ps z => by cases z)
        exact p _ _ _ _ x1 s1 (.lst (.inl (.inl upd_same)) (x1.rvs r'))
      · exact p.elim
  · exact p.elim
def fTuple : List PV → Hm → Res PV := fun xs h => match xs with
  | [.tup ys] => .ok (.tup ys) h
  | [x] => match listOf h x with
    | some ys => .ok (.tup ys) h
    | none => .stuck
  | _ => .stuck
theorem fTuple_ok : CalM X.K Tb W fTuple (fun xs H Q => ∃ p ys, xs = [.ref p] ∧ ((SqL X.K H p ys ∧ ∀ l, H l = none → Q (.ref l) (upd H l (.tup ys))) ∨ (SqT X.K H p ys ∧ Q (.ref p) H))) := by
  intro ρ F h H σ xs vs Q s rx p
  unfold fTuple at p
  split at p
  · cases rx with
    | cons r rr =>
      cases rr
      cases r with
      | @tup a vs _ q r => exact ⟨_, _, rfl, .inr ⟨sqT_le s.le q, post_ret p s (.tup q r)⟩⟩
  · cases rx with
    | cons r rr =>
      cases rr
      split at p
      · rename_i ys hy
        obtain ⟨a, ws, rfl, q, r'⟩ := listOf_at s r hy
        refine ⟨_, _, rfl, .inl ⟨q, fun l hl => ?_⟩⟩
        obtain ⟨s1, x1⟩ := s.laid (o := .tup ws) hl (fun ps z => by cases z)
        exact p _ _ _ _ x1 s1 (.tup (.inl (.inl upd_same)) (x1.rvs r'))
      · exact p.elim
  · exact p.elim
end
end PM
end
section
set_option Elab.async false
set_option linter.all false
set_option maxRecDepth 100000
set_option autoImplicit false
set_option maxHeartbeats 4000000
namespace PM
open PySem PySem.Spec PyProof.Rows L2

section
variable {X : Cx} {Tb : TBs} {W : WX} {a b c e o i : Expr} {es : List Expr} {ma mb mc mo mi : M PV} {ms : M (List PV)} {pos : Pos} {k : Nat}
/-! ### a < b < c -/
theorem pm_chain {op op' : CmpOp} {r r' : R2} {f g : PV → PV → Hm → Res PV} (ho : OpR X (compareOp op) r) (hf : OpM X.K Tb W f r) (ho' : OpR X (compareOp op') r') (hg : OpM X.K Tb W g r') (ha : PM X Tb W a ma) (hb : PM X Tb W b mb) (hc : PM X Tb W c mc)
    (hm : lastMarks [op, op'] [b, c] = false := by with_unfolding_all rfl) : PM X Tb W (.Compare a [op, op'] [b, c] pos) (mChain f g ma mb mc) := ⟨PE.imp (pe_chain ho ho' ha.pe hb.pe hc.pe hm) fun σ H Q q => tChain_of hf hg σ H Q q⟩
theorem pmt_chain {op op' : CmpOp} {r r' : R2} {f g : PV → PV → Hm → Res PV} (ho : OpR X (compareOp op) r) (hf : OpM X.K Tb W f r) (ho' : OpR X (compareOp op') r') (hg : OpM X.K Tb W g r') (ha : PM X Tb W a ma) (hb : PM X Tb W b mb) (hc : PM X Tb W c mc)
    (hm : lastMarks [op, op'] [b, c] = false := by with_unfolding_all rfl) : PMT X Tb W (.Compare a [op, op'] [b, c] pos) (mTst (mChain f g ma mb mc)) := ⟨PT.imp (pt_chain ho ho' ha.pe hb.pe hc.pe hm) fun σ H Q q => tChain_of hf hg σ H _ (tTest_of σ H Q q)⟩
/-! ### isinstance(x, T) of a built-in type -/
theorem pe_tyName {x : Str} {T : String} (hg : Gl X x) (hm : X.mg x = none) (hv : bootBuiltins x = some (.type T)) (hn : x ≠ "__name__" := by decide) (hdb : (x == ("__debug__" : Str)) = false := by decide) : PE X (.Name x pos) (tC (.ty T)) :=
  ⟨fun pins s σ H Q I h => ld_blt I hg hm hv ⟨.ty T, H, I, rfl, h⟩ hn hdb⟩
def tyOf (h : Hm) : PV → Option String
  | .non => some "NoneType"
  | .bl _ => some "bool"
  | .int _ => some "int"
  | .str _ => some "str"
  | .tup _ => some "tuple"
  | .lst _ => some "list"
  | .ref i => match h[i]? with
    | some (.lst _) => some "list"
    | _ => none
  | .fn _ => none
def fIsi (T : String) : PV → Hm → Res PV := fun x h => match tyOf h x with
  | some t => match kitB t T with
    | some b => .ok (.bl b) h
    | none => .stuck
  | none => .stuck
theorem tyOf_at {K : PySem.W.Frag} {ρ : List Addr} {F H : Hp} {h : Hm} {x : PV} {v : V} {t : String} (s : Sim K Tb ρ F h H) (r : RV K ρ F x v) (e : tyOf h x = some t) : TyX K H v (.type t) := by
  cases r with
  | non => cases e; exact .base .non
  | bl b => cases e; exact .base (.bl b)
  | int i => cases e; exact .base (.int i)
  | str s => cases e; exact .base (.str s)
  | @tup a xs ds q r =>
    cases e
    rcases q with (q | ⟨o, q⟩) | ⟨o, its, n, q, z, rest⟩
    · exact .base (.tup (s.le.at q rfl))
    · exact .fTuple (s.le.at q rfl)
    · exact .kTuple q z
  | @lst a xs ds q r =>
    cases e
    rcases q with (q | ⟨o, q⟩) | ⟨o, its, n, q, z, rest⟩
    · exact .base (.lst (s.le.at q rfl))
    · exact .base (.frz (s.le.at q rfl))
    · exact .kList q z
  | @ref i a hi =>
    simp only [tyOf] at e
    split at e
    · rename_i xs hx
      cases e
      obtain ⟨p, O, e1, e2, r⟩ := s.ob i _ hx
      rw [hi] at e1; cases e1
      cases r
      exact .base (.lst e2)
    · cases e
  | fn a => cases e
def mUn1 (f : PV → Hm → Res PV) (a : M PV) : M PV := fun e h => (a e h).bind fun x h1 => f x h1
theorem pm_isi {x : Str} {T : String} {p p2 : Pos} (hg : Gl X "isinstance") (hm : X.mg "isinstance" = none) (hv : bootBuiltins "isinstance" = some (.builtin "isinstance")) (ha : PM X Tb W a ma) (hg2 : Gl X x) (hm2 : X.mg x = none) (hv2 : bootBuiltins x = some (.type T))
    (hn2 : x ≠ "__name__" := by decide) (hdb2 : (x == ("__debug__" : Str)) = false := by decide)
    (he : starEach [a, .Name x p2] X.env = (false, eval a X.env) :: starEach [.Name x p2] X.env := by rfl) (he2 : starEach [.Name x p2] X.env = (false, eval (.Name x p2) X.env) :: starEach [] X.env := by rfl) (hpl : (backTo pos (starEach [.Name x p2] X.env)).any (·.1) = false := by rfl) :
    PM X Tb W (.Call (.Name "isinstance" p) [a, .Name x p2] [] pos) (mUn1 (fIsi T) ma) :=
  ⟨PE.imp (pe_callB call_isi hg hm hv (pa_cons ha.pe (pa_cons (pe_tyName hg2 hm2 hv2 hn2 hdb2) pa_nil he2) he) (by decide) (by decide) he hpl) fun σ H Q q => by
    obtain ⟨ρ, F, e, h, s, re, p⟩ := rd_bind (R := RV X.K) (k := fun x => fun _ h1 => fIsi T x h1) q
    refine ⟨ρ, F, e, h, s, re, post_imp p fun v H1 ⟨ρ1, F1, e1, h1, y, s1, re1, rx, p1⟩ => ?_⟩
    unfold fIsi at p1
    split at p1
    · rename_i t ht
      split at p1
      · rename_i b hb
        exact ⟨v, .ty T, _, _, b, rfl, .ty T, tyOf_at s1 rx ht, kit_ty hb, post_ret p1 s1 (.bl b)⟩
      · exact p1.elim
    · exact p1.elim⟩
/-! ### methods of built-in types -/
def tyP (T : String) (h : Hm) : PV → Bool
  | .str _ => T == "str"
  | .lst _ => T == "list"
  | .ref i => match h[i]? with
    | some (.lst _) => T == "list"
    | _ => false
  | _ => false
theorem tyP_at {K : PySem.W.Frag} {ρ : List Addr} {F H : Hp} {h : Hm} {x : PV} {v : V} {T : String} (s : Sim K Tb ρ F h H) (r : RV K ρ F x v) (e : tyP T h x = true) : tyV K T v H := by
  cases r with
  | str s => exact beq_iff_eq.mp e
  | @lst a xs ds q r => exact .inl ⟨beq_iff_eq.mp e, _, sqL_le s.le q⟩
  | @ref i a hi =>
    simp only [tyP] at e
    split at e
    · rename_i xs hx
      obtain ⟨p, O, e1, e2, r⟩ := s.ob i _ hx
      rw [hi] at e1; cases e1
      cases r with
      | lst r => exact .inl ⟨beq_iff_eq.mp e, _, .inl (.inl e2)⟩
    · cases e
  | _ => cases e
def mMeth (T : String) (f : PV → List PV → Hm → Res PV) (o : M PV) (ms : M (List PV)) : M PV := fun e h => (o e h).bind fun x h1 => if tyP T h1 x = true then (ms e h1).bind fun xs h2 => f x xs h2 else .stuck
def MetM (K : PySem.W.Frag) (Tb : TBs) (W : WX) (f : PV → List PV → Hm → Res PV) (r : V → List V → Hp → VK → Prop) : Prop := ∀ ρ F h H σ x xs v vs Q, Sim K Tb ρ F h H → RV K ρ F x v → RVs K ρ F xs vs → post K Tb W (RV K) ρ F H σ (f x xs h) Q → r v vs H Q
section
variable {T id : String} {name : Str} {apos cpos : Pos} {f : PV → List PV → Hm → Res PV} {r : V → List V → Hp → VK → Prop}
theorem pm_bm (pa : PlainAttrs T) (slot : PySem.Slot T name id) (hty : typeOf (.builtin id) = pure (.type "method_descriptor")) (hm : MtR X id r) (hf : MetM X.K Tb W f r) (ho : PM X Tb W o mo) (ha : PMA X Tb W (e :: es) ms)
    (hbase : attributeBase o name X.env (eval o X.env) = eval o X.env := by rfl)
    (hfew : ((backTo cpos (starEach (e :: es) X.env)).all (fun x => !x.1) && (backToKw cpos (keywordEach [] X.env)).all (fun x => x.1.isSome)
      && decide ((e :: es).length + ([] : List Keyword).length + (if ([] : List Keyword).isEmpty then 0 else 1) < 30)) = true := by rfl)
    (hline : (apos.endLine == cpos.line) = true := by rfl) (hs : starEach (e :: es) X.env = (false, eval e X.env) :: starEach es X.env := by rfl) (hplain : (backTo cpos (starEach es X.env)).any (·.1) = false := by rfl) :
    PM X Tb W (.Call (.Attribute o name apos) (e :: es) [] cpos) (mMeth T f mo ms) :=
  ⟨PE.imp (pe_bm pa slot hty hm ho.pe ha.pa hbase hfew hline hs hplain) fun σ H Q q => by
    obtain ⟨ρ, F, e, h, s, re, p⟩ := rd_bind (R := RV X.K) (k := fun x => fun e h1 => if tyP T h1 x = true then (ms e h1).bind fun xs h2 => f x xs h2 else .stuck) q
    refine ⟨ρ, F, e, h, s, re, post_imp p fun v H1 ⟨ρ1, F1, e1, h1, x, s1, re1, rx, p1⟩ => ?_⟩
    split at p1
    · rename_i c
      refine ⟨tyP_at s1 rx c, ρ1, F1, e1, h1, s1, re1, post_imp (post_bind (R := RVs X.K) p1) fun vs H2 t => ?_⟩
      obtain ⟨ρ2, F2, h2, xs, ex, s2, rxs, p2⟩ := t.ex
      exact hf ρ2 F2 h2 H2 σ x xs v vs Q s2 (ex.rv rx) rxs p2
    · exact p1.elim⟩
theorem pm_bm0 (pa : PlainAttrs T) (slot : PySem.Slot T name id) (hty : typeOf (.builtin id) = pure (.type "method_descriptor")) (hm : MtR X id r) (hf : MetM X.K Tb W f r) (ho : PM X Tb W o mo)
    (hbase : attributeBase o name X.env (eval o X.env) = eval o X.env := by rfl) (hline : (apos.endLine == cpos.line) = true := by rfl) : PM X Tb W (.Call (.Attribute o name apos) [] [] cpos) (mMeth T f mo mNil) :=
  ⟨PE.imp (pe_bm0 pa slot hty hm ho.pe hbase hline) fun σ H Q q => by
    obtain ⟨ρ, F, e, h, s, re, p⟩ := rd_bind (R := RV X.K) (k := fun x => fun e h1 => if tyP T h1 x = true then (mNil e h1).bind fun xs h2 => f x xs h2 else .stuck) q
    refine ⟨ρ, F, e, h, s, re, post_imp p fun v H1 ⟨ρ1, F1, e1, h1, x, s1, re1, rx, p1⟩ => ?_⟩
    split at p1
    · rename_i c
      exact ⟨tyP_at s1 rx c, hf ρ1 F1 h1 H1 σ x [] v [] Q s1 rx .nil p1⟩
    · exact p1.elim⟩
end
def mtPart : PV → List PV → Hm → Res PV := fun x xs h => match x, xs with
  | .str a, [.str b] => if (b.length == 0) = false ∧ a.length ≤ 1000000 then .ok (.tup [.str (Txt.partition a b).1, .str (Txt.partition a b).2.1, .str (Txt.partition a b).2.2]) h else .stuck
  | _, _ => .stuck
theorem mtPart_ok : MetM X.K Tb W mtPart (fun x xs H Q => ∃ a b, x = .str a ∧ xs = [.str b] ∧ (b.length == 0) = false ∧ a.length ≤ sizeLine ∧
    ∀ p, H p = none → Q (.ref p) (upd H p (.tup [.str (Txt.partition a b).1, .str (Txt.partition a b).2.1, .str (Txt.partition a b).2.2]))) := by
  intro ρ F h H σ x xs v vs Q s rx rxs p
  unfold mtPart at p
  split at p
  · cases rx
    cases rxs with
    | cons r rr =>
      cases rr
      cases r
      split at p
      · rename_i c
        refine ⟨_, _, rfl, rfl, c.1, mil c.2, fun t ht => ?_⟩
        obtain ⟨s1, x1⟩ := s.laid (o := .tup _) ht (fun ps z => by cases z)
        exact p _ _ _ _ x1 s1 (.tup (.inl (.inl upd_same)) (.cons (.str _) (.cons (.str _) (.cons (.str _) .nil))))
      · exact p.elim
  · exact p.elim
theorem rvs_strs {K : PySem.W.Frag} {ρ : List Addr} {F : Hp} : ∀ ys : List Str, RVs K ρ F (ys.map .str) (ys.map V.str)
  | [] => .nil
  | y :: ys => .cons (.str y) (rvs_strs ys)
def mtSplit : PV → List PV → Hm → Res PV := fun x xs h => match x, xs with
  | .str a, [.str b] => if (b.length == 0) = false ∧ a.length + 2 ≤ 1000000 then .ok (.lst ((Txt.split a b).map .str)) h else .stuck
  | _, _ => .stuck
theorem mtSplit_ok : MetM X.K Tb W mtSplit (fun x xs H Q => ∃ a b, x = .str a ∧ xs = [.str b] ∧ (b.length == 0) = false ∧ a.length + 2 ≤ sizeLine ∧ rNewStrs (Txt.split a b) H Q) := by
  intro ρ F h H σ x xs v vs Q s rx rxs p
  unfold mtSplit at p
  split at p
  · cases rx
    cases rxs with
    | cons r rr =>
      cases rr
      cases r
      split at p
      · rename_i c
        refine ⟨_, _, rfl, rfl, c.1, mil c.2, fun t ht => ?_⟩
        obtain ⟨s1, x1⟩ := s.laid (o := .lst _) ht (fun ps z => by cases z)
        exact p _ _ _ _ x1 s1 (.lst (.inl (.inl upd_same)) (rvs_strs _))
      · exact p.elim
  · exact p.elim
/-- texts only -/
def strsOf : List PV → Option (List Str)
  | [] => some []
  | .str y :: xs => (strsOf xs).map (y :: ·)
  | _ :: _ => none
theorem strsOf_at {K : PySem.W.Frag} {ρ : List Addr} {F : Hp} : ∀ {xs : List PV} {vs : List V} {ys : List Str}, RVs K ρ F xs vs → strsOf xs = some ys → vs = ys.map V.str
  | [], _, ys, r, e => by cases r; cases e; rfl
  | x :: xs, _, ys, r, e => by
    cases r with
    | cons a b =>
      cases a with
      | str y =>
        simp only [strsOf] at e
        obtain ⟨zs, e1, rfl⟩ := Option.map_eq_some_iff.mp e
        rw [strsOf_at b e1]
        rfl
      | _ => simp only [strsOf] at e; cases e
def mtJoin : PV → List PV → Hm → Res PV := fun x xs h => match x, xs with
  | .str a, [y] => match rowOf h y with
    | some ys => match strsOf ys with
      | some zs => if (zs.map (·.length)).sum + zs.length * a.length ≤ 1000000 then .ok (.str (Txt.join a zs)) h else .stuck
      | none => .stuck
    | none => .stuck
  | _, _ => .stuck
theorem mtJoin_ok : MetM X.K Tb W mtJoin (fun x xs H Q => ∃ a p, ∃ ys : List Str, x = .str a ∧ xs = [.ref p] ∧ (SqL X.K H p (ys.map V.str) ∨ SqT X.K H p (ys.map V.str)) ∧
    (ys.map (·.length)).sum + ys.length * a.length ≤ 16777216 ∧ Q (.str (Txt.join a ys)) H) := by
  intro ρ F h H σ x xs v vs Q s rx rxs p
  unfold mtJoin at p
  split at p
  · cases rx
    cases rxs with
    | cons r rr =>
      cases rr
      split at p
      · rename_i ys hy
        split at p
        · rename_i zs hz
          split at p
          · rename_i c
            obtain ⟨q, ws, rfl, hq, rq⟩ := rowOf_at s r hy
            have e := strsOf_at rq hz
            subst e
            exact ⟨_, q, zs, rfl, rfl, hq, Nat.le_trans c (by decide), post_ret p s (.str _)⟩
          · exact p.elim
        · exact p.elim
      · exact p.elim
  · exact p.elim
/-! ### f'..' -/
inductive PMJ (X : Cx) (Tb : TBs) (W : WX) : List Expr → List (M PV) → Prop where
  | nil : PMJ X Tb W [] []
  | cons {e : Expr} {m : M PV} {es : List Expr} {ms : List (M PV)} (h : PM X Tb W e m) (r : PMJ X Tb W es ms) : PMJ X Tb W (e :: es) (m :: ms)
theorem PMJ.pj {es : List Expr} {ms : List (M PV)} (h : PMJ X Tb W es ms) : PJ X es (ms.map (rE X.K Tb W)) := by
  induction h with
  | nil => exact .nil
  | cons h r ih => exact .cons h.pe ih
def mJs : List (M PV) → Str → M PV
  | [], acc => fun _ h => .ok (.str acc) h
  | m :: ms, acc => fun e h => (m e h).bind fun v h1 => match v with
    | .str y => if (acc ++ y).length ≤ 1000000 then mJs ms (acc ++ y) e h1 else .stuck
    | _ => .stuck
def fFmt : PV → Hm → Res PV := fun x h => match x with
  | .str y => if y.length ≤ 1000000 then .ok (.str y) h else .stuck
  | .int i => if i.natAbs.log2 < 1920 then .ok (.str (toString i)) h else .stuck
  | _ => .stuck
theorem pm_fmt (ha : PM X Tb W a ma) : PM X Tb W (.FormattedValue a (-1) none pos) (mUn1 fFmt ma) := ⟨PE.imp (pe_fmt ha.pe) fun σ H Q q => by
  obtain ⟨ρ, F, e, h, s, re, p⟩ := rd_bind (R := RV X.K) (k := fun x => fun _ h1 => fFmt x h1) q
  refine ⟨ρ, F, e, h, s, re, post_imp p fun v H1 ⟨ρ1, F1, e1, h1, y, s1, re1, rx, p1⟩ => ?_⟩
  unfold fFmt at p1
  split at p1
  · cases rx
    split at p1
    · rename_i c
      exact .inl ⟨_, rfl, mil c, post_ret p1 s1 (.str _)⟩
    · exact p1.elim
  · cases rx
    split at p1
    · rename_i c
      exact .inr ⟨_, rfl, c, post_ret p1 s1 (.str _)⟩
    · exact p1.elim
  · exact p1.elim⟩
theorem tJs_of : ∀ (ms : List (M PV)) (acc : Str) (σ : L2.St) (H : Hp) (Q : VK), rE X.K Tb W (mJs ms acc) σ H Q → tJs (ms.map (rE X.K Tb W)) acc σ H fun out H1 => Q (.str out) H1
  | [], acc, σ, H, Q, q => by
    obtain ⟨ρ, F, e, h, s, re, p⟩ := q
    exact post_ret p s (.str _)
  | m :: ms, acc, σ, H, Q, q => by
    obtain ⟨ρ, F, e, h, s, re, p⟩ := rd_bind (R := RV X.K) (k := fun v => fun e h1 => match v with
      | .str y => if (acc ++ y).length ≤ 1000000 then mJs ms (acc ++ y) e h1 else .stuck
      | _ => .stuck) q
    refine ⟨ρ, F, e, h, s, re, post_imp p fun v H1 ⟨ρ1, F1, e1, h1, y, s1, re1, rx, p1⟩ => ?_⟩
    cases rx with
    | str y =>
      dsimp only at p1
      split at p1
      · rename_i c
        exact ⟨y, rfl, mil c, tJs_of ms _ σ H1 Q ⟨ρ1, F1, e1, h1, s1, re1, p1⟩⟩
      · exact p1.elim
    | _ => exact p1.elim
theorem pm_joined {v1 v2 : Expr} {rest : List Expr} {ms : List (M PV)} (h : PMJ X Tb W (v1 :: v2 :: rest) ms) : PM X Tb W (.JoinedStr (v1 :: v2 :: rest) pos) (mJs ms Str.empty) := ⟨PE.imp (pe_joined h.pj) fun σ H Q q => tJs_of ms _ σ H Q q⟩
theorem pm_joined1 {e : Expr} {m : M PV} (h : PM X Tb W e m) : PM X Tb W (.JoinedStr [e] pos) m := ⟨pe_joined1 h.pe⟩
/-! ### lists in the heap that change -/
def mtApp : PV → List PV → Hm → Res PV := fun x xs h => match x, xs with
  | .ref i, [y] => match h[i]? with
    | some (.lst ys) => if ys.length < 1000000 then .ok .non (h.set i (.lst (ys ++ [y]))) else .stuck
    | _ => .stuck
  | _, _ => .stuck
theorem tb_ne {K : PySem.W.Frag} {ρ : List Addr} {F H : Hp} {h : Hm} (s : Sim K Tb ρ F h H) {p : Addr} (hp : p ∈ ρ) : ∀ P ∈ Tb, P ≠ p := fun P hP z => tab_ne s hP hp z.symm
theorem mtApp_ok : MetM X.K Tb W mtApp rAppend := by
  intro ρ F h H σ x xs v vs Q s rx rxs p
  unfold mtApp at p
  split at p
  · rename_i i y
    cases rx with
    | @ref _ a hi =>
      cases rxs with
      | cons r rr =>
        cases rr
        split at p
        · rename_i ys hy
          split at p
          · rename_i c
            obtain ⟨q, O, e1, e2, ro⟩ := s.ob i _ hy
            rw [hi] at e1; cases e1
            cases ro with
            | @lst _ ws rw' =>
              obtain ⟨s1, x1⟩ := s.write (o := .lst (ys ++ [y])) hi (.lst (rw'.app (.cons r .nil))) (tb_ne s (List.mem_of_getElem? hi))
              refine ⟨a, ws, _, rfl, rfl, e2, by rw [← rw'.len]; exact Nat.lt_of_lt_of_le c (by decide), p _ _ _ _ x1 s1 .non⟩
          · exact p.elim
        · exact p.elim
  · exact p.elim
/-- o[i] = v of a list in the heap -/
def putIx (x y v : PV) (h : Hm) : Option Hm := match x, y with
  | .ref r, .int j => match h[r]? with
    | some (.lst ys) => (ixN ys.length j).map fun n => h.set r (.lst (ys.set n v))
    | _ => none
  | _, _ => none
def sSetIx (mo mi : M PV) (me : M PV) : Sm := bindS me fun v => bindS mo fun x => bindS mi fun y e h => match putIx x y v h with
  | some h1 => .nx e h1
  | none => .stuck
theorem rdS_at {α β : Type} {K : PySem.W.Frag} {B : Bs} {R : List Addr → Hp → α → β → Prop} {m : M α} {k : α → Sm} {D : Ends} {ρ : List Addr} {F H : Hp} {e0 : En} {h : Hm} {σ : L2.St} (a : At K Tb B ρ F H e0 h σ) (p : postS K Tb W B (bindS m k e0 h) D) :
    rd K Tb W R m σ H fun x H1 => ∃ ρ1 F1 h1 v, Ext ρ F H ρ1 F1 H1 ∧ At K Tb B ρ1 F1 H1 e0 h1 σ ∧ R ρ1 F1 v x ∧ postS K Tb W B (k v e0 h1) D := by
  refine ⟨ρ, F, e0, h, a.s, a.rb.re, ?_⟩
  unfold bindS at p
  cases r : m e0 h with
  | ok v h1 =>
    rw [r] at p
    exact fun ρ1 F1 H1 x ex s1 r1 => ⟨ρ1, F1, h1, v, ex, a.ext ex s1, r1, p⟩
  | exc c h1 =>
    rw [r] at p
    exact fun ρ1 F1 H1 ex s1 => p ρ1 F1 H1 σ (a.ext ex s1)
  | stuck => rw [r] at p; exact p
theorem At.wrote {K : PySem.W.Frag} {B : Bs} {ρ : List Addr} {F H H' : Hp} {e0 : En} {h h' : Hm} {σ : L2.St} (a : At K Tb B ρ F H e0 h σ) (s : Sim K Tb ρ F h' H') (x : Ext ρ F H ρ F H') : At K Tb B ρ F H' e0 h' σ := a.ext x s
theorem pms_setIx {tpos : Pos} (ho : PM X Tb W o mo) (hi : PM X Tb W i mi) (he : PM X Tb W e ma)
    (has : ∀ v, assign (.Subscript o i tpos) X.env v = (do
      let ov ← holding [v] (eval o X.env)
      let iv ← holding [v, ov] (eval i X.env)
      standAt tpos
      holding [v, ov, iv] (setItem ov iv v)
      release [v, ov, iv] []) := by intro _; rfl)
    (hs : swapsWithSole [.Subscript o i tpos] e pos.line X.env = pure false := by rfl) (hw : swappedStores [.Subscript o i tpos] e X.env = pure none := by rfl)
    (h1 : (assignEach [.Subscript o i tpos] X.env).map (·.2) = [assign (.Subscript o i tpos) X.env] := by rfl) : PMS X Tb W (.Assign [.Subscript o i tpos] e pos) (sSetIx mo mi ma) :=
  ⟨fun B => PS.imp (ps_asg he.pe (pg_sub ho.pe hi.pe set_list has) hs hw h1) fun D σ H q => by
    obtain ⟨ρ, F, e0, h, a, q⟩ := q
    obtain ⟨ρ0, F0, e0', h0, s0, re0, p⟩ := rdS_at (R := RV X.K) a q
    refine ⟨ρ0, F0, e0', h0, s0, re0, post_imp p fun v H1 ⟨ρ1, F1, h1, vv, x1, a1, rv, q1⟩ => ?_⟩
    obtain ⟨ρ0, F0, e0', h0, s0, re0, p⟩ := rdS_at (R := RV X.K) a1 q1
    refine ⟨ρ0, F0, e0', h0, s0, re0, post_imp p fun x H2 ⟨ρ2, F2, h2, xv, x2, a2, rx, q2⟩ => ?_⟩
    obtain ⟨ρ0, F0, e0', h0, s0, re0, p⟩ := rdS_at (R := RV X.K) a2 q2
    refine ⟨ρ0, F0, e0', h0, s0, re0, post_imp p fun y H3 ⟨ρ3, F3, h3, yv, x3, a3, ry, q3⟩ => ?_⟩
    have rv3 := x3.rv (x2.rv rv)
    have rx3 := x3.rv rx
    cases hp : putIx xv yv vv h3 with
    | none => rw [hp] at q3; exact q3.elim
    | some h4 =>
      rw [hp] at q3
      cases rx3 with
      | @ref r pa hr =>
        cases ry with
        | int j =>
          simp only [putIx] at hp
          split at hp
          · rename_i ys hy
            obtain ⟨n, hn, rfl⟩ := Option.map_eq_some_iff.mp hp
            obtain ⟨q, O, e1, e2, ro⟩ := a3.s.ob r _ hy
            rw [hr] at e1; cases e1
            cases ro with
            | @lst _ ws rw' =>
              obtain ⟨s4, x4⟩ := a3.s.write (o := .lst (ys.set n vv)) hr (.lst (rw'.set n rv3)) (tb_ne a3.s (List.mem_of_getElem? hr))
              exact ⟨pa, ws, j, n, rfl, rfl, e2, by rw [← rw'.len]; exact hn, q3 ρ3 F3 _ σ (a3.wrote s4 x4)⟩
          · cases hp
        | _ => simp only [putIx] at hp; cases hp
      | _ => simp only [putIx] at hp; cases hp⟩
end
end PM
end
section
set_option Elab.async false
set_option linter.all false
set_option maxRecDepth 100000
set_option autoImplicit false
set_option maxHeartbeats 4000000
namespace PM
open PySem PySem.Spec PyProof.Rows L2

/-! ### comparisons, as values and as tests -/
structure CmpM (X : Cx) (Tb : TBs) (W : WX) (op : CmpOp) (f : PV → PV → Hm → Res PV) : Prop where
  ex : ∃ r, OpR X (compareOp op) r ∧ OpM X.K Tb W f r
section
variable {X : Cx} {Tb : TBs} {W : WX} {a b c : Expr} {ma mb mc : M PV} {pos : Pos} {k : Nat} {op op' : CmpOp} {f g : PV → PV → Hm → Res PV}
theorem c_eq (hr : Room k X.A) : CmpM X Tb W .Eq (pure2 gEq) := ⟨_, op_eqD hr.units, pure2_of fun ρ F h H x y v w z s rx ry e => by
  unfold gEq at e
  obtain ⟨c, e1, rfl⟩ := Option.map_eq_some_iff.mp e
  obtain ⟨d, d', h1, h2, h3, h4, rfl⟩ := gEqv_some e1
  exact ⟨_, .bl _, fun Q q => ⟨d, d', RV.dp s.le _ _ _ rx h1, RV.dp s.le _ _ _ ry h2, h3, h4, q⟩⟩⟩
theorem c_ne (hr : Room k X.A) : CmpM X Tb W .NotEq (pure2 gNe) := ⟨_, op_neD hr.units, pure2_of fun ρ F h H x y v w z s rx ry e => by
  unfold gNe at e
  obtain ⟨c, e1, rfl⟩ := Option.map_eq_some_iff.mp e
  obtain ⟨d, d', h1, h2, h3, h4, rfl⟩ := gEqv_some e1
  exact ⟨_, .bl _, fun Q q => ⟨d, d', RV.dp s.le _ _ _ rx h1, RV.dp s.le _ _ _ ry h2, h3, h4, q⟩⟩⟩
theorem c_is : CmpM X Tb W .Is (pure2 gIsN) := ⟨_, op_isN, pure2_of fun ρ F h H x y v w z s rx ry e => by
  cases rx <;> cases ry <;> simp only [gIsN] at e <;> cases e <;> exact ⟨_, .bl _, fun Q q => ⟨rfl, q⟩⟩⟩
theorem c_isnot : CmpM X Tb W .IsNot (pure2 gNotN) := ⟨_, op_notN, pure2_of fun ρ F h H x y v w z s rx ry e => by
  cases rx <;> cases ry <;> simp only [gNotN] at e <;> cases e <;> exact ⟨_, .bl _, fun Q q => ⟨rfl, q⟩⟩⟩
theorem c_lt (hr : Room k X.A) : CmpM X Tb W .Lt (pure2 gLt) := ⟨_, opr_ltD hr, opm_dd fun _ _ => rfl⟩
theorem c_gt (hr : Room k X.A) : CmpM X Tb W .Gt (pure2 gGt) := ⟨_, opr_gtD hr, opm_dd fun _ _ => rfl⟩
theorem c_le (hr : Room k X.A) : CmpM X Tb W .LtE (pure2 gLe) := ⟨_, opr_leD hr, opm_dd fun _ _ => rfl⟩
theorem c_ge (hr : Room k X.A) : CmpM X Tb W .GtE (pure2 gGe) := ⟨_, opr_geD hr, opm_dd fun _ _ => rfl⟩
theorem c_in (hr : Room k X.A) : CmpM X Tb W .In (pure2 gIn) := ⟨_, opr_in hr, pure2_of fun ρ F h H x y v w z s rx ry e => by
  unfold gIn gDD at e
  obtain ⟨c, e1, rfl⟩ := Option.map_eq_some_iff.mp e
  obtain ⟨d, d', h1, h2, h3, h4, h5⟩ := gInv_some e1
  exact ⟨_, .bl _, fun Q q => ⟨d, d', c, RV.dp s.le _ _ _ rx h1, RV.dp s.le _ _ _ ry h2, h3, h4, h5, q⟩⟩⟩
theorem c_notin (hr : Room k X.A) : CmpM X Tb W .NotIn (pure2 gNotIn) := ⟨_, opr_notin hr, pure2_of fun ρ F h H x y v w z s rx ry e => by
  unfold gNotIn gDD at e
  obtain ⟨c, e1, rfl⟩ := Option.map_eq_some_iff.mp e
  obtain ⟨c', e2, rfl⟩ := Option.map_eq_some_iff.mp e1
  obtain ⟨d, d', h1, h2, h3, h4, h5⟩ := gInv_some e2
  exact ⟨_, .bl _, fun Q q => ⟨d, d', c', RV.dp s.le _ _ _ rx h1, RV.dp s.le _ _ _ ry h2, h3, h4, h5, q⟩⟩⟩
theorem pm_cm (h : CmpM X Tb W op f) (ha : PM X Tb W a ma) (hb : PM X Tb W b mb) (hm : behindInMarks op b = false := by first | exact nomark _ | rfl) : PM X Tb W (.Compare a [op] [b] pos) (mOp f ma mb) := by
  obtain ⟨r, h1, h2⟩ := h.ex
  exact pm_cmp h1 h2 ha hb hm
theorem pmt_cm (h : CmpM X Tb W op f) (ha : PM X Tb W a ma) (hb : PM X Tb W b mb) (hm : behindInMarks op b = false := by first | exact nomark _ | rfl) : PMT X Tb W (.Compare a [op] [b] pos) (mTst (mOp f ma mb)) := by
  obtain ⟨r, h1, h2⟩ := h.ex
  exact pmt_cmp h1 h2 ha hb hm
theorem pm_cm2 (h : CmpM X Tb W op f) (h' : CmpM X Tb W op' g) (ha : PM X Tb W a ma) (hb : PM X Tb W b mb) (hc : PM X Tb W c mc) (hm : lastMarks [op, op'] [b, c] = false := by with_unfolding_all rfl) : PM X Tb W (.Compare a [op, op'] [b, c] pos) (mChain f g ma mb mc) := by
  obtain ⟨r, h1, h2⟩ := h.ex
  obtain ⟨r', h3, h4⟩ := h'.ex
  exact pm_chain h1 h2 h3 h4 ha hb hc hm
theorem pmt_cm2 (h : CmpM X Tb W op f) (h' : CmpM X Tb W op' g) (ha : PM X Tb W a ma) (hb : PM X Tb W b mb) (hc : PM X Tb W c mc) (hm : lastMarks [op, op'] [b, c] = false := by with_unfolding_all rfl) : PMT X Tb W (.Compare a [op, op'] [b, c] pos) (mTst (mChain f g ma mb mc)) := by
  obtain ⟨r, h1, h2⟩ := h.ex
  obtain ⟨r', h3, h4⟩ := h'.ex
  exact pmt_chain h1 h2 h3 h4 ha hb hc hm
end

/-! ### name = [comprehension] on one line -/
section
variable {X : Cx} {Tb : TBs} {W : WX} {L : Addr} {elt tg iter : Expr} {ifs : List Expr} {scope : Scope} {own : List (Str × Nat)} {ns : List Nat} {pos : Pos} {mi : M Src} {g : Gm} {mt : M Bool} {me : M PV}
theorem pms_setLc (i : Nat) {y : Str} {py spos : Pos} (hc : X.calm = true) (hN : X.N.Nodup) (hy : X.N[i]? = some y) (hyl : X.env.scope.names.lookup y = some .local)
    (hsw : swapsWith (.ListComp elt [⟨tg, iter, ifs, 0⟩] scope pos) (some (.Name y py)) spos.line X.env = pure true) (hi : PMI X Tb W tg iter mi) (ok : BlkOk X.N X.env.scope scope own) (tk : TakesL X L W) (fm : Frm X L) (hns : ∀ i ∈ ns, i ∈ own.map (·.2))
    (hg : AtBlk X scope fun Y => PMG Y Tb tg g ns) (ht : ∀ W', AtBlk X scope fun Y => TakesL Y L W' → PMTs Y Tb W' ifs mt) (he : ∀ W', AtBlk X scope fun Y => TakesL Y L W' → PM Y Tb W' elt me) (hs : ∀ x, foldedSetIterable iter X.env x = pure x := by intro _; rfl) :
    PMS X Tb W (.Assign [.Name y py] (.ListComp elt [⟨tg, iter, ifs, 0⟩] scope pos) spos) (sSet i (mLc (own.map (·.2)) mi g mt me)) :=
  ⟨fun B => PS.imp (ps_setLcX hc hN hy hyl hsw hi.pi ok tk fm (fun s H C cl fp xe => (hg s H C cl fp xe).pg) (fun σ s H C cl fp xe t => (ht _ s H C cl fp xe t).pt) (fun σ s H C cl fp xe t => (he _ s H C cl fp xe t).pe) hs) fun D σ H q => by
    obtain ⟨ρ, F, e, h, s, re, p⟩ := rdS_bind (R := RV X.K) q
    refine tLc_of hns ⟨ρ, F, e, h, s, re, post_imp p fun x H1 ⟨ρ1, F1, e1, h1, v, a1, rv, q1⟩ => q1 ρ1 F1 H1 _ (a1.set i rv)⟩⟩
end

/-! ### defs by their places -/
theorem code_of_fund {K : PySem.W.Frag} {x qual : Str} {params : Arguments} {body : List Stmt} {scope : Scope} {dvs : List V} {kws : List (Str × V)} {p : He.Defn} {fd : FuncData} (F : FunD K x qual params body scope dvs kws (He.fAd K p) fd) :
    ∃ (oc : Value) (od : Option Addr) (dV kV doc pm : Value) (an : Option Addr) (ct : Value) (osl : Array (Option Value)), fd = PySem.W.fnOf x qual params body scope dV kV doc pm an (.ref (He.codeOf K p)) ct ∧ K.lookup (He.fAd K p) = some ⟨oc, od, .func fd, osl⟩ ∧ PySem.W.codeIn K (.ref (He.codeOf K p)) qual = true := by
  obtain ⟨oc, od, dV, kV, doc, pm, an, cdv, ct, osl, rfl, lk, hcd, _, _⟩ := F.ex
  obtain ⟨c, rfl⟩ := He.codeIn_ref hcd
  have e := He.codeOf_eq (p := p) lk rfl
  rw [e]
  exact ⟨oc, od, dV, kV, doc, pm, an, ct, osl, rfl, lk, hcd⟩
section
variable {P : Program} {w : World} {K : PySem.W.Frag} {mg : Str → Option Value} {base : Heap} {Tb : TBs}
theorem fn_pmT {x qual : Str} {params : Arguments} {body : List Stmt} {scope : Scope} {dvs : List V} {kws : List (Str × V)} {p : He.Defn} {fd : FuncData} {N ps : List Str} {k : Nat} {m : Sm} (F : FunD K x qual params body scope dvs kws (He.fAd K p) fd) (S : FnScope N ps scope)
    (hb : ∀ (A : Around) (outer : List Env) (s : Shared) (H : Hp) (E : XK), Room k (A.deeper (envOfC qual scope s.heap.objs.size (He.fAd K p) (.ref (He.codeOf K p)))) → PMB (cxOf (L2.CX P w) P w K mg base N qual scope (He.fAd K p) (.ref (He.codeOf K p)) A outer s H E) Tb (WF E) body m) :
    FnOk P w K mg base (L2.CX P w) (k + 1) (He.fAd K p) fd ps (spP K Tb ps.length (bodyF ps.length N.length m)) := by
  obtain ⟨oc, od, dV, kV, doc, pm, an, ct, osl, rfl, lk, hcd⟩ := code_of_fund F
  refine fn_of lk hcd S (fun vs H Q E h => ?_) fun A outer s H vs Q E hr hsp => ?_
  · obtain ⟨ρ, F, h, ds, s, r, l, p⟩ := h
    rw [← r.len]; exact l
  · obtain ⟨ρ, F, h, ds, si, r, l, p⟩ := hsp
    refine ⟨_, (hb A outer s H E hr).pb ⟨ρ, F, H, ρ, F⟩, ?_⟩
    unfold bodyF at p
    rw [if_pos l] at p
    exact run_body si r p
/-- a def of the top: what it does, at level k -/
structure OkD (P : Program) (w : World) (K : PySem.W.Frag) (mg : Str → Option Value) (base : Heap) (Tb : TBs) (k : Nat) (x : Str) (ps : List Str) (F : PF) : Prop where
  ex : ∃ fd, FnOk P w K mg base (L2.CX P w) k (He.ga K x) fd ps (spP K Tb ps.length F) ∧ Binds K fd ps []
  kp : PySem.W.keepIn K (.ref (He.ga K x)) = true
  gl : mg x = some (.ref (He.ga K x))
end
section
variable {X : Cx} {Tb : TBs} {W : WX} {j k : Nat} {ps : List Str} {F : PF} {x : Str} {p pos : Pos} {e : Expr} {es : List Expr} {ms : M (List PV)}
theorem pm_callD (G : OkD X.prog X.w X.K X.mg X.base Tb j x ps F) (hr : Room k X.A) (hj : j ≤ k) (hx : PassAll X W) (hg : Gl X x) (ha : PMA X Tb W (e :: es) ms) (hl : LenM ps.length ms) (hdb : (x == ("__debug__" : Str)) = false := by decide) (he : starEach (e :: es) X.env = (false, eval e X.env) :: starEach es X.env := by rfl) (hpl : (backTo pos (starEach es X.env)).any (·.1) = false := by rfl) :
    PM X Tb W (.Call (.Name x p) (e :: es) [] pos) (mCall F ms) := by
  obtain ⟨fd, h1, h2⟩ := G.ex
  exact pm_call (h1.mono hj) hr hx hg G.gl G.kp h2 ha hl hdb he hpl
theorem pm_callD0 (G : OkD X.prog X.w X.K X.mg X.base Tb j x [] F) (hr : Room k X.A) (hj : j ≤ k) (hx : PassAll X W) (hg : Gl X x) (hdb : (x == ("__debug__" : Str)) = false := by decide) : PM X Tb W (.Call (.Name x p) [] [] pos) (mCall F mNil) := by
  obtain ⟨fd, h1, h2⟩ := G.ex
  exact pm_call0 (h1.mono hj) hr hx hg G.gl G.kp h2 hdb
end
end PM
end
section
set_option Elab.async false
set_option linter.all false
set_option maxRecDepth 100000
set_option autoImplicit false
set_option maxHeartbeats 4000000
namespace PM
open PySem PySem.Spec PyProof.Rows L2

/-! ### constants of the top -/
mutual
def relPV (K : PySem.W.Frag) : PV → Value → Bool
  | .non, u => (match u with
    | .none => true
    | _ => false)
  | .bl b, u => (match u with
    | .bool c => decide (c = b)
    | _ => false)
  | .int i, u => (match u with
    | .int j _ => decide (j = i)
    | _ => false)
  | .str x, u => (match u with
    | .str y _ => decide (y = x)
    | _ => false)
  | .tup ds, u => (match u with
    | .ref a => (match K.lookup a with
      | some ⟨.type c, _, .seq its _, _⟩ => decide (c = "tuple") && (decide (its.size ≤ 1000000) && relPVs K ds its.toList)
      | _ => false)
    | _ => false)
  | .lst ds, u => (match u with
    | .ref a => (match K.lookup a with
      | some ⟨.type c, none, .seq its _, _⟩ => decide (c = "list") && (decide (its.size ≤ 1000000) && relPVs K ds its.toList)
      | _ => false)
    | _ => false)
  | .ref _, _ => false
  | .fn _, _ => false
def relPVs (K : PySem.W.Frag) : List PV → List Value → Bool
  | [], [] => true
  | d :: ds, u :: us => relPV K d u && relPVs K ds us
  | _, _ => false
end
mutual
theorem relPV_ok {K : PySem.W.Frag} : ∀ (d : PV) (u : Value), relPV K d u = true → ∃ v, RelV v u ∧ ∀ ρ F, RV K ρ F d v
  | .non, u, h => by
    cases u <;> simp only [relPV] at h <;> try cases h
    exact ⟨.non, rfl, fun _ _ => .non⟩
  | .bl b, u, h => by
    cases u <;> simp only [relPV] at h <;> try cases h
    exact ⟨.bl _, by rw [of_decide_eq_true h]; rfl, fun _ _ => .bl _⟩
  | .int b, u, h => by
    cases u <;> simp only [relPV] at h <;> try cases h
    exact ⟨.int b, ⟨_, by rw [of_decide_eq_true h]⟩, fun _ _ => .int _⟩
  | .str b, u, h => by
    cases u <;> simp only [relPV] at h <;> try cases h
    exact ⟨.str b, ⟨_, by rw [of_decide_eq_true h]⟩, fun _ _ => .str _⟩
  | .tup ds, u, h => by
    cases u <;> simp only [relPV] at h <;> try cases h
    split at h
    · rename_i c od its n sl q
      obtain ⟨h1, h2⟩ := He.ba h
      obtain ⟨h3, h4⟩ := He.ba h2
      obtain ⟨vs, r1, r2⟩ := relPVs_ok ds its.toList h4
      refine ⟨.ref _, rfl, fun ρ F => .tup (.inr ⟨_, its, n, q, by rw [of_decide_eq_true h1], rfl, mil (of_decide_eq_true h3), r1⟩) (r2 ρ F)⟩
    · cases h
  | .lst ds, u, h => by
    cases u <;> simp only [relPV] at h <;> try cases h
    split at h
    · rename_i c its n sl q
      obtain ⟨h1, h2⟩ := He.ba h
      obtain ⟨h3, h4⟩ := He.ba h2
      obtain ⟨vs, r1, r2⟩ := relPVs_ok ds its.toList h4
      refine ⟨.ref _, rfl, fun ρ F => .lst (.inr ⟨_, its, n, q, by rw [of_decide_eq_true h1], rfl, rfl, mil (of_decide_eq_true h3), r1⟩) (r2 ρ F)⟩
    · cases h
  | .ref _, u, h => by simp [relPV] at h
  | .fn _, u, h => by simp [relPV] at h
theorem relPVs_ok {K : PySem.W.Frag} : ∀ (ds : List PV) (us : List Value), relPVs K ds us = true → ∃ vs, Vals vs us ∧ ∀ ρ F, RVs K ρ F ds vs
  | [], [], _ => ⟨[], .nil, fun _ _ => .nil⟩
  | [], u :: us, h => by simp [relPVs] at h
  | d :: ds, [], h => by simp [relPVs] at h
  | d :: ds, u :: us, h => by
    simp only [relPVs] at h
    obtain ⟨h1, h2⟩ := He.ba h
    obtain ⟨v, r1, r2⟩ := relPV_ok d u h1
    obtain ⟨vs, r3, r4⟩ := relPVs_ok ds us h2
    exact ⟨v :: vs, .cons r1 r3, fun ρ F => .cons (r2 ρ F) (r4 ρ F)⟩
end
def conPV (K : PySem.W.Frag) (x : Str) (d : PV) : Bool := match PySem.W.nsIn K mainGlobals x with
  | some (some u) => relPV K d u
  | _ => false
/-- constants, exceptions that are no StopIteration -/
def tabsApart (tf tl : List He.Defn) (K : PySem.W.Frag) : Bool := (tl.all fun p => tf.all fun q => !decide ((He.cT K p).2 = (He.cT K q).2)) && tl.all fun p => tl.all fun q => !decide ((He.cT K p).2 = (He.cT K q).2) || decide (p.1 = q.1)
def exB (cs : List (Str × PV)) (es : List Str) (tf tl : List He.Defn) (K : PySem.W.Frag) : Bool := tabsApart tf tl K && ((cs.all fun p => conPV K p.1 p.2) && es.all fun e => decide (PySem.W.subIn K (.ref (He.ga K e)) (.type "StopIteration") = some false))

/-- what is known of the top -/
structure Wd (fa : List He.Fa) (fn : List He.DefD) (ts : List He.Tab) (tf tl : List He.Defn) (cs : List (Str × PV)) (es : List Str) (w : World) (K : PySem.W.Frag) (mg : Str → Option Value) (base : Heap) : Prop where
  t : He.SaysT fa fn ts w K
  more : exB cs es tf tl K = true
  kin : K.In base
  ns : base.Ns mainGlobals mg
  tb : ∀ p ∈ tf ++ tl, LamX.TabB base mg (He.cT K p).1 (He.cT K p).2
abbrev lamName (x : Str) : Str := x ++ ".<locals>." ++ "<lambda>"
abbrev TbOf (tf tl : List He.Defn) (K : PySem.W.Frag) : TBs := ⟨tf.map fun p => (He.cT K p).2, tl.map fun p => ((He.cT K p).2, lamName p.1)⟩
section
variable {fa : List He.Fa} {fn : List He.DefD} {ts : List He.Tab} {tf tl : List He.Defn} {cs : List (Str × PV)} {es : List Str} {P : Program} {w : World} {K : PySem.W.Frag} {mg : Str → Option Value} {base : Heap}
theorem Wd.d (C : Wd fa fn ts tf tl cs es w K mg base) : He.SaysD fa fn K := congrArg (fun z : He.AlT => z.1) C.t
theorem Wd.glo (C : Wd fa fn ts tf tl cs es w K mg base) (i : Nat) {x : Str} (h : fa[i]? = some (.glo x)) : mg x = some (.ref (He.ga K x)) := He.glo_ok C.kin C.ns (C.d.fact i h)
theorem Wd.free (C : Wd fa fn ts tf tl cs es w K mg base) (i : Nat) {x : Str} (h : fa[i]? = some (.free x)) : mg x = none := He.free_ok C.kin C.ns (C.d.fact i h)
theorem Wd.exm (C : Wd fa fn ts tf tl cs es w K mg base) (i : Nat) {x y : Str} {b : Bool} (h : fa[i]? = some (.exm x y b)) : PySem.W.exmOne K (.ref (He.ga K x)) (.ref (He.ga K y)) = some b := He.exm_ok (C.d.fact i h)
theorem Wd.con (C : Wd fa fn ts tf tl cs es w K mg base) (i : Nat) {x : Str} {d : PV} (h : cs[i]? = some (x, d)) : ∃ v u, mg x = some u ∧ RelV v u ∧ ∀ ρ F, RV K ρ F d v := by
  have h1 := List.all_eq_true.mp (He.ba (He.ba C.more).2).1 _ (List.mem_of_getElem? h)
  unfold conPV at h1
  split at h1
  · rename_i u e
    obtain ⟨v, r1, r2⟩ := relPV_ok d u h1
    exact ⟨v, u, PySem.W.mg_of C.kin C.ns e, r1, r2⟩
  · cases h1
theorem Wd.nosi (C : Wd fa fn ts tf tl cs es w K mg base) : ∀ e ∈ es, NoSI K (.ref (He.ga K e)) := fun e he => by
  have h1 := of_decide_eq_true (List.all_eq_true.mp (He.ba (He.ba C.more).2).2 e he)
  exact fun M h k => PySem.W.looks_subIn k h1
theorem Wd.tabs (C : Wd fa fn ts tf tl cs es w K mg base) (i : Nat) {p : He.Defn} (h : tf[i]? = some p) : GxR.TabB base mg (He.codeOf K p) (He.cT K p).2 := by
  obtain ⟨h1, h2, h3⟩ := C.tb p (List.mem_append_left _ (List.mem_of_getElem? h))
  exact ⟨h1, h2, h3⟩
theorem Wd.tabL (C : Wd fa fn ts tf tl cs es w K mg base) (i : Nat) {p : He.Defn} (h : tl[i]? = some p) : LamX.TabB base mg (He.codeOf K p) (He.cT K p).2 := C.tb p (List.mem_append_right _ (List.mem_of_getElem? h))
theorem Wd.apart (C : Wd fa fn ts tf tl cs es w K mg base) : ∀ p ∈ (TbOf tf tl K).l, p.1 ∉ (TbOf tf tl K).g := by
  intro p hp hq
  obtain ⟨a, ha, rfl⟩ := List.mem_map.mp hp
  obtain ⟨b, hb, e⟩ := List.mem_map.mp hq
  have h1 := List.all_eq_true.mp (List.all_eq_true.mp (He.ba (He.ba C.more).1).1 a ha) b hb
  rw [decide_eq_true e.symm] at h1
  cases h1
theorem Wd.one (C : Wd fa fn ts tf tl cs es w K mg base) (i : Nat) {p : He.Defn} (h : tl[i]? = some p) : ((He.cT K p).2, lamName p.1) ∈ (TbOf tf tl K).l ∧ ∀ q ∈ (TbOf tf tl K).l, q.1 = (He.cT K p).2 → q.2 = lamName p.1 := by
  have hm := List.mem_of_getElem? h
  refine ⟨List.mem_map.mpr ⟨p, hm, rfl⟩, fun q hq e => ?_⟩
  obtain ⟨a, ha, rfl⟩ := List.mem_map.mp hq
  have h1 := List.all_eq_true.mp (List.all_eq_true.mp (He.ba (He.ba C.more).1).2 a ha) p hm
  rw [decide_eq_true e] at h1
  have h2 : a.1 = p.1 := by simpa using h1
  show lamName a.1 = lamName p.1
  rw [h2]
theorem tb_mem (i : Nat) {p : He.Defn} (h : tf[i]? = some p) : (He.cT K p).2 ∈ TbOf tf tl K := List.mem_map.mpr ⟨p, List.mem_of_getElem? h, rfl⟩
theorem Wd.okD (C : Wd fa fn ts tf tl cs es w K mg base) {Tb : TBs} (i j : Nat) {x : Str} {d : He.DefD} {ps : List Str} {k : Nat} {F : PF} (hd : fn[i]? = some d) (hg : fa[j]? = some (.glo x)) (hx : d.at_ = (x, none)) (h0 : d.dfl = []) (h1 : d.kwd = [])
    (h : ∀ fd, FunD K d.name d.qual d.params d.body d.scope [] [] (He.ga K x) fd → FnOk P w K mg base (L2.CX P w) k (He.ga K x) fd ps (spP K Tb ps.length F))
    (hb : ∀ (kV doc pm : Value) (an : Option Addr) (cdv ct : Value) (us : List Value), us.length = ps.length → bindArgs (PySem.W.fnOf d.name d.qual d.params d.body d.scope .none kV doc pm an cdv ct) ⟨us, []⟩ = pure (ps.zip us)) : OkD P w K mg base Tb k x ps F := by
  obtain ⟨fd, hF⟩ := C.d.def_ i hd
  have e1 : d.dvs K = [] := by unfold He.DefD.dvs; rw [h0]; rfl
  have e2 : d.kws K = [] := by unfold He.DefD.kws; rw [h1]; rfl
  rw [hx, e1, e2] at hF
  exact ⟨⟨fd, h fd hF, FunD.bindsN hF hb⟩, hF.kp, C.glo j hg⟩
end

/-! ### raise X('m') -/
section
variable {X : Cx} {Tb : TBs} {W : WX}
theorem pms_raiseX {c m : Str} {j : Nat} {p p2 p3 pos : Pos} (hc : X.calm = true) (tk : Takes X W) (he : (He.Fa.exc c).ok X.K = true) (gC : X.mg c = some (.ref (He.ga X.K c))) (hg : Gl X c) (hdb : (c == ("__debug__" : Str)) = false := by decide) :
    PMS X Tb W (.Raise (some (.Call (.Name c p) [.Constant (.str m) j p2] [] p3)) none pos) (sRaise c) := by
  obtain ⟨c1, c2, c3, c4⟩ := He.exc_ok he
  exact pms_raise hc tk (pmk_own PySem.F.excBase_ValueError c1 gC c2 (raises_own c3 c4) hg hdb)
end
end PM
end
section
set_option Elab.async false
set_option linter.all false
set_option maxRecDepth 100000
set_option autoImplicit false
set_option maxHeartbeats 4000000
namespace PM
open PySem PySem.Spec PyProof.Rows L2

theorem b_len : bootBuiltins "len" = some (.builtin "len") := by decide +kernel
theorem b_abs : bootBuiltins "abs" = some (.builtin "abs") := by decide +kernel
theorem b_isinstance : bootBuiltins "isinstance" = some (.builtin "isinstance") := by decide +kernel
theorem b_max : bootBuiltins "max" = some (.builtin "max") := by decide +kernel
theorem b_min : bootBuiltins "min" = some (.builtin "min") := by decide +kernel
theorem b_sum : bootBuiltins "sum" = some (.builtin "sum") := by decide +kernel
theorem b_sorted : bootBuiltins "sorted" = some (.builtin "sorted") := by decide +kernel
theorem b_int : bootBuiltins "int" = some (.type "int") := by decide +kernel
theorem b_str : bootBuiltins "str" = some (.type "str") := by decide +kernel
theorem b_bool : bootBuiltins "bool" = some (.type "bool") := by decide +kernel
theorem b_list : bootBuiltins "list" = some (.type "list") := by decide +kernel
theorem b_tuple : bootBuiltins "tuple" = some (.type "tuple") := by decide +kernel
theorem b_dict : bootBuiltins "dict" = some (.type "dict") := by decide +kernel
section
variable {X : Cx} {Tb : TBs} {W : WX} {a o : Expr} {ma mo : M PV} {p pos apos cpos : Pos} {e : Expr} {es : List Expr} {ms : M (List PV)}
theorem pc_len (hg : Gl X "len") (hm : X.mg "len" = none) (ha : PM X Tb W a ma) (he : starEach [a] X.env = (false, eval a X.env) :: starEach [] X.env := by rfl) : PM X Tb W (.Call (.Name "len" p) [a] [] pos) (mCall fLen (mCons ma mNil)) :=
  pm_callB call_len fLen_ok hg hm b_len (pma_cons ha pma_nil he) (by decide) (by decide) he
theorem pc_abs (hg : Gl X "abs") (hm : X.mg "abs" = none) (ha : PM X Tb W a ma) (he : starEach [a] X.env = (false, eval a X.env) :: starEach [] X.env := by rfl) : PM X Tb W (.Call (.Name "abs" p) [a] [] pos) (mCall fAbs (mCons ma mNil)) :=
  pm_callB call_abs fAbs_ok hg hm b_abs (pma_cons ha pma_nil he) (by decide) (by decide) he
theorem pc_int (hg : Gl X "int") (hm : X.mg "int" = none) (ha : PM X Tb W a ma) (he : starEach [a] X.env = (false, eval a X.env) :: starEach [] X.env := by rfl) : PM X Tb W (.Call (.Name "int" p) [a] [] pos) (mCall fInt (mCons ma mNil)) :=
  pm_callTy (callOr call_int1 call_int_str) fInt_ok hg hm b_int (pma_cons ha pma_nil he) (by decide) (by decide) he
theorem pc_str (hg : Gl X "str") (hm : X.mg "str" = none) (ha : PM X Tb W a ma) (he : starEach [a] X.env = (false, eval a X.env) :: starEach [] X.env := by rfl) : PM X Tb W (.Call (.Name "str" p) [a] [] pos) (mCall fStr (mCons ma mNil)) :=
  pm_callTy (callOr call_str_int SkE.call_str_str) fStr_ok hg hm b_str (pma_cons ha pma_nil he) (by decide) (by decide) he
theorem pc_list (hg : Gl X "list") (hm : X.mg "list" = none) (ha : PM X Tb W a ma) (he : starEach [a] X.env = (false, eval a X.env) :: starEach [] X.env := by rfl) : PM X Tb W (.Call (.Name "list" p) [a] [] pos) (mCall fList (mCons ma mNil)) :=
  pm_callTy call_list_of fList_ok hg hm b_list (pma_cons ha pma_nil he) (by decide) (by decide) he
theorem pc_tuple (hg : Gl X "tuple") (hm : X.mg "tuple" = none) (ha : PM X Tb W a ma) (he : starEach [a] X.env = (false, eval a X.env) :: starEach [] X.env := by rfl) : PM X Tb W (.Call (.Name "tuple" p) [a] [] pos) (mCall fTuple (mCons ma mNil)) :=
  pm_callTy call_tuple_of fTuple_ok hg hm b_tuple (pma_cons ha pma_nil he) (by decide) (by decide) he
theorem met_partition (ho : PM X Tb W o mo) (ha : PMA X Tb W (e :: es) ms)
    (hbase : attributeBase o "partition" X.env (eval o X.env) = eval o X.env := by rfl)
    (hfew : ((backTo cpos (starEach (e :: es) X.env)).all (fun x => !x.1) && (backToKw cpos (keywordEach [] X.env)).all (fun x => x.1.isSome)
      && decide ((e :: es).length + ([] : List Keyword).length + (if ([] : List Keyword).isEmpty then 0 else 1) < 30)) = true := by rfl)
    (hline : (apos.endLine == cpos.line) = true := by rfl) (hs : starEach (e :: es) X.env = (false, eval e X.env) :: starEach es X.env := by rfl) (hplain : (backTo cpos (starEach es X.env)).any (·.1) = false := by rfl) :
    PM X Tb W (.Call (.Attribute o "partition" apos) (e :: es) [] cpos) (mMeth "str" mtPart mo ms) := pm_bm PySem.F.plainAttrs_str PySem.F.slot_str_partition PySem.F.type_str_partition mt_partition mtPart_ok ho ha hbase hfew hline hs hplain
theorem met_split (ho : PM X Tb W o mo) (ha : PMA X Tb W (e :: es) ms)
    (hbase : attributeBase o "split" X.env (eval o X.env) = eval o X.env := by rfl)
    (hfew : ((backTo cpos (starEach (e :: es) X.env)).all (fun x => !x.1) && (backToKw cpos (keywordEach [] X.env)).all (fun x => x.1.isSome)
      && decide ((e :: es).length + ([] : List Keyword).length + (if ([] : List Keyword).isEmpty then 0 else 1) < 30)) = true := by rfl)
    (hline : (apos.endLine == cpos.line) = true := by rfl) (hs : starEach (e :: es) X.env = (false, eval e X.env) :: starEach es X.env := by rfl) (hplain : (backTo cpos (starEach es X.env)).any (·.1) = false := by rfl) :
    PM X Tb W (.Call (.Attribute o "split" apos) (e :: es) [] cpos) (mMeth "str" mtSplit mo ms) := pm_bm PySem.F.plainAttrs_str PySem.F.slot_str_split PySem.F.type_str_split mt_split mtSplit_ok ho ha hbase hfew hline hs hplain
theorem met_join (ho : PM X Tb W o mo) (ha : PMA X Tb W (e :: es) ms)
    (hbase : attributeBase o "join" X.env (eval o X.env) = eval o X.env := by rfl)
    (hfew : ((backTo cpos (starEach (e :: es) X.env)).all (fun x => !x.1) && (backToKw cpos (keywordEach [] X.env)).all (fun x => x.1.isSome)
      && decide ((e :: es).length + ([] : List Keyword).length + (if ([] : List Keyword).isEmpty then 0 else 1) < 30)) = true := by rfl)
    (hline : (apos.endLine == cpos.line) = true := by rfl) (hs : starEach (e :: es) X.env = (false, eval e X.env) :: starEach es X.env := by rfl) (hplain : (backTo cpos (starEach es X.env)).any (·.1) = false := by rfl) :
    PM X Tb W (.Call (.Attribute o "join" apos) (e :: es) [] cpos) (mMeth "str" mtJoin mo ms) := pm_bm PySem.F.plainAttrs_str PySem.F.slot_str_join PySem.F.type_str_join mt_join mtJoin_ok ho ha hbase hfew hline hs hplain
theorem met_append (ho : PM X Tb W o mo) (ha : PMA X Tb W (e :: es) ms)
    (hbase : attributeBase o "append" X.env (eval o X.env) = eval o X.env := by rfl)
    (hfew : ((backTo cpos (starEach (e :: es) X.env)).all (fun x => !x.1) && (backToKw cpos (keywordEach [] X.env)).all (fun x => x.1.isSome)
      && decide ((e :: es).length + ([] : List Keyword).length + (if ([] : List Keyword).isEmpty then 0 else 1) < 30)) = true := by rfl)
    (hline : (apos.endLine == cpos.line) = true := by rfl) (hs : starEach (e :: es) X.env = (false, eval e X.env) :: starEach es X.env := by rfl) (hplain : (backTo cpos (starEach es X.env)).any (·.1) = false := by rfl) :
    PM X Tb W (.Call (.Attribute o "append" apos) (e :: es) [] cpos) (mMeth "list" mtApp mo ms) := pm_bm PySem.F.plainAttrs_list PySem.F.slot_list_append PySem.F.type_list_append mt_append mtApp_ok ho ha hbase hfew hline hs hplain
end

/-! ### equality through changing lists -/
mutual
def toDh (h : Hm) : Nat → PV → Option PyData
  | 0, _ => none
  | n + 1, .ref i => (match h[i]? with
    | some (.lst xs) => (match toDhs h n xs with
      | some ds => some (.list ds)
      | none => none)
    | none => none)
  | n + 1, .tup xs => (match toDhs h n xs with
    | some ds => some (.tuple ds)
    | none => none)
  | n + 1, .lst xs => (match toDhs h n xs with
    | some ds => some (.list ds)
    | none => none)
  | _ + 1, x => toD x
def toDhs (h : Hm) : Nat → List PV → Option (List PyData)
  | 0, _ => none
  | n + 1, [] => some []
  | n + 1, x :: xs => (match toDh h n x, toDhs h n xs with
    | some d, some ds => some (d :: ds)
    | _, _ => none)
end
section
variable {K : PySem.W.Frag} {Tb : TBs} {ρ : List Addr} {F H : Hp} {h : Hm}
mutual
theorem RV.dph (s : Sim K Tb ρ F h H) : ∀ (n : Nat) (x : PV) (v : V) (d : PyData), RV K ρ F x v → toDh h n x = some d → Dp K H v d
  | 0, _, _, _, _, e => by simp [toDh] at e
  | n + 1, .ref i, _, _, r, e => by
    simp only [toDh] at e
    split at e
    · rename_i xs hi
      split at e
      · rename_i ds hd
        cases e
        cases r with
        | ref hp =>
          obtain ⟨p, O, h1, h2, h3⟩ := s.ob i _ hi
          rw [hp] at h1; cases h1
          cases h3 with
          | lst r2 => exact .lst (.inl (.inl h2)) (RVs.dph s n _ _ _ r2 hd)
      · cases e
    · cases e
  | n + 1, .tup xs, _, _, r, e => by
    simp only [toDh] at e
    split at e
    · rename_i ds hd
      cases e
      cases r with
      | tup q r2 => exact .tup (sqT_le s.le q) (RVs.dph s n _ _ _ r2 hd)
    · cases e
  | n + 1, .lst xs, _, _, r, e => by
    simp only [toDh] at e
    split at e
    · rename_i ds hd
      cases e
      cases r with
      | lst q r2 => exact .lst (sqL_le s.le q) (RVs.dph s n _ _ _ r2 hd)
    · cases e
  | n + 1, .non, _, _, r, e => RV.dp s.le _ _ _ r (by simpa only [toDh] using e)
  | n + 1, .bl b, _, _, r, e => RV.dp s.le _ _ _ r (by simpa only [toDh] using e)
  | n + 1, .int b, _, _, r, e => RV.dp s.le _ _ _ r (by simpa only [toDh] using e)
  | n + 1, .str b, _, _, r, e => RV.dp s.le _ _ _ r (by simpa only [toDh] using e)
  | n + 1, .fn b, _, _, r, e => RV.dp s.le _ _ _ r (by simpa only [toDh] using e)
theorem RVs.dph (s : Sim K Tb ρ F h H) : ∀ (n : Nat) (x : List PV) (v : List V) (d : List PyData), RVs K ρ F x v → toDhs h n x = some d → DpAll K H v d
  | 0, _, _, _, _, e => by simp [toDhs] at e
  | n + 1, [], _, _, r, e => by
    cases r; simp only [toDhs] at e; cases e; exact .nil
  | n + 1, x :: xs, _, _, r, e => by
    simp only [toDhs] at e
    split at e
    · rename_i d ds h1 h2
      cases e
      cases r with
      | cons a b => exact .cons (RV.dph s n _ _ _ a h1) (RVs.dph s n _ _ _ b h2)
    · cases e
end
end
def fEqB (neg : Bool) (x y : PV) (h : Hm) : Res PV := match toDh h 40 x, toDh h 40 y with
  | some d, some e => if SeqAt.shaped d = true ∧ SeqAt.shaped e = true then .ok (.bl (if neg then !(PyData.eqv d e) else PyData.eqv d e)) h else .stuck
  | _, _ => .stuck
abbrev fEqH := fEqB false
abbrev fNeH := fEqB true
section
variable {X : Cx} {Tb : TBs} {W : WX} {k : Nat}
theorem c_eqH (hr : Room k X.A) : CmpM X Tb W .Eq fEqH := ⟨_, op_eqD hr.units, fun ρ F h H σ x y v w Q s rx ry q => by
  unfold fEqH fEqB at q
  split at q
  · rename_i d e h1 h2
    split at q
    · rename_i c
      exact ⟨d, e, RV.dph s _ _ _ _ rx h1, RV.dph s _ _ _ _ ry h2, c.1, c.2, post_ret q s (.bl _)⟩
    · exact q.elim
  · exact q.elim⟩
theorem c_neH (hr : Room k X.A) : CmpM X Tb W .NotEq fNeH := ⟨_, op_neD hr.units, fun ρ F h H σ x y v w Q s rx ry q => by
  unfold fNeH fEqB at q
  split at q
  · rename_i d e h1 h2
    split at q
    · rename_i c
      exact ⟨d, e, RV.dph s _ _ _ _ rx h1, RV.dph s _ _ _ _ ry h2, c.1, c.2, post_ret q s (.bl _)⟩
    · exact q.elim
  · exact q.elim⟩
end
end PM
end
section
set_option Elab.async false
set_option linter.all false
set_option maxRecDepth 100000
set_option autoImplicit false
set_option maxHeartbeats 4000000
namespace PMS
open PySem PySem.Calls PyProof.Rows PySem.W

/-- alike as far as the first difference -/
def paAll : List PyData → List PyData → Bool
  | x :: xs, y :: ys => alike x y && (!PyData.eqv x y || paAll xs ys)
  | _, _ => true
def pa : PyData → PyData → Bool
  | .tuple xs, .tuple ys => paAll xs ys
  | x, y => alike x y
def AllPa (ds : List PyData) : Prop := ∀ d, d ∈ ds → ∀ d', d' ∈ ds → pa d d' = true
theorem pa_cons {x y : PyData} {xs ys : List PyData} (h : paAll (x :: xs) (y :: ys) = true) : alike x y = true ∧ (PyData.eqv x y = true → paAll xs ys = true) := by
  rw [paAll, Bool.and_eq_true, Bool.or_eq_true] at h
  refine ⟨h.1, fun e => ?_⟩
  rcases h.2 with q | q
  · rw [e] at q; cases q
  · exact q
theorem paAll_self : ∀ {xs : List PyData}, paAll xs xs = true → alikeAll xs xs = true
  | [], _ => by simp [alikeAll]
  | x :: xs, h => by
    obtain ⟨h1, h2⟩ := pa_cons h
    rw [alikeAll, h1, paAll_self (h2 (eqv_refl_alike x h1))]
    rfl
theorem pa_self {d : PyData} (h : pa d d = true) : alike d d = true := by
  cases d with
  | tuple xs => rw [alike]; exact paAll_self h
  | _ => exact h
mutual
theorem reads_one {h : Heap} : ∀ (d d' : PyData) (v : Value) (as as' : List Addr), alike d d = true → alike d' d' = true → Reads h v d as → Reads h v d' as' → d = d'
  | .none, _, _, _, _, _, _, r, r' => by cases r; cases r'; rfl
  | .bool _, _, _, _, _, _, _, r, r' => by cases r; cases r'; rfl
  | .int _, _, _, _, _, _, _, r, r' => by cases r; cases r'; rfl
  | .str _, _, _, _, _, _, _, r, r' => by cases r; cases r'; rfl
  | .list xs, d', _, _, _, ha, hb, r, r' => by
    cases r with
    | list h1 h2 h3 h4 =>
      cases r' with
      | list k1 k2 k3 k4 =>
        rw [h1] at k1; cases k1
        rw [h3] at k3; cases k3
        rw [readsAll_one xs _ _ _ _ (by simpa [alike] using ha) (by simpa [alike] using hb) h4 k4]
      | tuple k1 k2 k3 k4 =>
        rw [h1] at k1; cases k1
        rw [h2] at k2
        injection k2 with k2
        exact absurd k2 (by decide)
      | dict k1 k2 k3 k4 k5 => exact absurd hb (by simp [alike])
  | .tuple xs, d', _, _, _, ha, hb, r, r' => by
    cases r with
    | tuple h1 h2 h3 h4 =>
      cases r' with
      | tuple k1 k2 k3 k4 =>
        rw [h1] at k1; cases k1
        rw [h3] at k3; cases k3
        rw [readsAll_one xs _ _ _ _ (by simpa [alike] using ha) (by simpa [alike] using hb) h4 k4]
      | list k1 k2 k3 k4 =>
        rw [h1] at k1; cases k1
        rw [h2] at k2
        injection k2 with k2
        exact absurd k2 (by decide)
      | dict k1 k2 k3 k4 k5 => exact absurd hb (by simp [alike])
  | .dict _, d', _, _, _, ha, _, _, _ => absurd ha (by simp [alike])
theorem readsAll_one {h : Heap} : ∀ (xs ys : List PyData) (vs : List Value) (as as' : List Addr), alikeAll xs xs = true → alikeAll ys ys = true → ReadsAll h vs xs as → ReadsAll h vs ys as' → xs = ys
  | [], _, _, _, _, _, _, r, r' => by cases r; cases r'; rfl
  | x :: xs, [], _, _, _, _, _, r, r' => by cases r'; cases r
  | x :: xs, y :: ys, _, _, _, ha, hb, r, r' => by
    cases r with
    | cons h1 h2 =>
      cases r' with
      | cons k1 k2 => rw [reads_one x y _ _ _ (alike_all_cons ha).1 (alike_all_cons hb).1 h1 k1, readsAll_one xs ys _ _ _ (alike_all_cons ha).2 (alike_all_cons hb).2 h2 k2]
end
theorem kind_some {h : Heap} {ds : List PyData} (hal : AllPa ds) {v : Value} {d : PyData} {as : List Addr} (hd : d ∈ ds) (r : Reads h v d as) : (dataKind h ds).keyOf v = some (keyToks d) := by
  have q : ∃ d, d ∈ ds ∧ ∃ as, Reads h v d as := ⟨d, hd, as, r⟩
  have e : (dataKind h ds).keyOf v = some (keyToks q.choose) := by
    show (open Classical in if q : ∃ d, d ∈ ds ∧ ∃ as, Reads h v d as then some (keyToks q.choose) else none) = _
    rw [dif_pos q]
  obtain ⟨h1, as', h2⟩ := q.choose_spec
  rw [e, reads_one _ _ _ _ _ (pa_self (hal _ h1 _ h1)) (pa_self (hal _ hd _ hd)) h2 r]
section
variable {prog : Program} {w : World} {A : Around} {s : Shared}
theorem katLex_pa {b fin : Bool} {Q : Bool → Shared → Prop} : ∀ (xs ys : List PyData) (i : Nat) (vs ws : List Value) (as bs : List Addr), ReadsAll s.heap vs xs as → ReadsAll s.heap ws ys bs → paAll xs ys = true →
    A.units + min (PyData.depthAll xs) (PyData.depthAll ys) < cLine → (b = true → i = 0 → ∀ x r t, xs = x :: r → x ≠ .tuple t) → fin = decide (xs.length < ys.length) → Q (PyProof.Rows.lexLt itemOrd (keyToksAll xs) (keyToksAll ys)) s → KatLex prog w A b fin Q (vs.zip ws) i s
  | [], [], i, _, _, _, _, ra, rb, _, _, _, hf, hq => by
    cases ra
    cases rb
    have e : fin = false := by rw [hf]; rfl
    subst e
    rw [lex_irrefl] at hq
    exact kat_nil hq
  | [], y :: ys, i, _, _, _, _, ra, rb, _, _, _, hf, hq => by
    cases ra
    cases rb
    have e : fin = true := by rw [hf]; exact decide_eq_true (Nat.succ_pos _)
    subst e
    rw [toks_all_cons] at hq
    simp only [keyToksAll] at hq
    rw [lex_diff (O := itemOrd) (by simp)] at hq
    rw [List.zip_nil_left]
    exact kat_nil (by simpa [itemLt] using hq)
  | x :: xs, [], i, _, _, _, _, ra, rb, _, _, _, hf, hq => by
    cases rb
    have e : fin = false := by rw [hf]; exact decide_eq_false (Nat.not_lt_zero _)
    subst e
    rw [toks_all_cons] at hq
    simp only [keyToksAll] at hq
    rw [lex_diff (O := itemOrd) (by simp)] at hq
    rw [List.zip_nil_right]
    exact kat_nil (by simpa [itemLt] using hq)
  | x :: xs, y :: ys, i, _, _, _, _, ra, rb, h, hu, hb, hf, hq => by
    obtain ⟨h1, h2⟩ := pa_cons h
    have hf' : fin = decide (xs.length < ys.length) := by
      rw [hf]
      simp only [List.length_cons, Nat.add_lt_add_iff_right]
    cases ra with
    | cons r rs =>
      cases rb with
      | cons r' rs' =>
        rw [List.zip_cons_cons]
        refine kat_cons (eqAt_alike x y A s _ _ _ _ r r' h1 (SeqAt.room_head hu) prog w _ _ ?_)
        cases hx : PyData.eqv x y with
        | true =>
          rw [dataLt_all_yes h1 hx] at hq
          exact kat_yes (katLex_pa xs ys (i + 1) _ _ _ _ rs rs' (h2 hx) (SeqAt.room_tail hu) (fun _ hi => absurd hi (Nat.succ_ne_zero i)) hf' hq)
        | false =>
          rw [dataLt_all_no h1 hx] at hq
          refine kat_no (oneLt_alike (fun hbi t => ?_) r r' h1 (ne_none_of h1 hx) (SeqAt.room_head hu) hq)
          rw [Bool.and_eq_true] at hbi
          exact hb hbi.1 (by simpa using hbi.2) x xs t rfl
theorem pa_first {x y : PyData} {xs ys : List PyData} (h : pa (.tuple (x :: xs)) (.tuple (y :: ys)) = true) : alike x y = true := (pa_cons h).1
theorem sorts_pa {vs : List Value} {ds : List PyData} (e : EachIs (fun v d => ∃ as, Reads s.heap v d as) vs ds) (hal : AllPa ds) (hk : Sortable ds) (hu : ∀ d, d ∈ ds → A.units + d.depth < cLine) : SortsAt prog w A s (dataKind s.heap ds) vs := by
  have room : ∀ {d d' : PyData}, d ∈ ds → A.units + min d.depth d'.depth < cLine := fun {d d'} hd => Nat.lt_of_le_of_lt (Nat.add_le_add_left (Nat.min_le_left _ _) _) (hu d hd)
  refine ⟨fun v hv => ?_, ?_⟩
  · obtain ⟨d, hd, as, r⟩ := e.left v hv
    exact ⟨_, kind_some hal hd r⟩
  · rcases hk with ht | hn
    · cases ds with
      | nil =>
        cases e
        exact ⟨general', fun E x y a b Q ha _ _ => (by
          obtain ⟨d, _, hd, _⟩ := dataKind_inv ha
          exact absurd hd (by simp)), fun h2 => absurd h2 (by simp)⟩
      | cons d₀ ds₀ =>
        obtain ⟨x₀, r₀, e₀⟩ := ht d₀ (List.mem_cons_self ..)
        have hfirst : ∀ x r, PyData.tuple (x :: r) ∈ d₀ :: ds₀ → alike x x₀ = true := by
          intro x r hm
          have q := hal _ hm d₀ (List.mem_cons_self ..)
          rw [e₀] at q
          exact pa_first q
        refine ⟨tuples' (dataType x₀ != Value.type "tuple"), ?_, fun h2 E Q hq => ?_⟩
        · intro E x y a b Q ha hb hq
          obtain ⟨d, as, hd, ra, rfl⟩ := dataKind_inv ha
          obtain ⟨d', as', hd', rb, rfl⟩ := dataKind_inv hb
          have hdd := hal d hd d' hd'
          have hroom := room (d' := d') hd
          obtain ⟨x1, r1, rfl⟩ := ht d hd
          obtain ⟨x2, r2, rfl⟩ := ht d' hd'
          have hq' : Q (dataLt (.tuple (x1 :: r1)) (.tuple (x2 :: r2))) s := hq
          rw [dataLt_tuple] at hq'
          cases ra with
          | @tuple l o xs n _ _ h1 h2 h3 h4 =>
            cases rb with
            | @tuple l' o' xs' n' _ _ k1 k2 k3 k4 =>
              have n1 : xs.size = (x1 :: r1).length := by simpa using SeqAt.ReadsAll.length _ _ _ h4
              have n2 : xs'.size = (x2 :: r2).length := by simpa using SeqAt.ReadsAll.length _ _ _ k4
              refine kat_lt h1 h3 k1 k3 (katLex_pa (x1 :: r1) (x2 :: r2) 0 _ _ _ _ h4 k4 hdd (by have q := SeqAt.room_in hroom; omega) (fun hb _ x r t ex => ?_) (by rw [n1, n2]) hq')
              obtain ⟨rfl, rfl⟩ := List.cons.inj ex
              have q := dataType_alike (hfirst _ _ hd)
              rw [← q] at hb
              exact dataType_tuple hb t
        · obtain ⟨fs, t1, t2, t3⟩ := each_katTups e ht
          refine kat_kind (T := dataType x₀) t1 (by omega) (fun f hf => ?_) (beq_self_eq_true _) hq
          obtain ⟨x, r, as, m1, m2⟩ := t3 f hf
          rw [← dataType_alike (hfirst x r m1)]
          exact looks_reads m2
    · have hal' : ∀ d, d ∈ ds → ∀ d', d' ∈ ds → alike d d' = true := fun d hd d' hd' => by
        have q := hal d hd d' hd'
        cases d with
        | tuple xs => exact absurd rfl ((hn _ hd).2 xs)
        | _ => exact q
      refine ⟨oneType', ?_, fun h2 E Q hq => ?_⟩
      · intro E x y a b Q ha hb hq
        obtain ⟨d, as, hd, ra, rfl⟩ := dataKind_inv ha
        obtain ⟨d', as', hd', rb, rfl⟩ := dataKind_inv hb
        rw [keyLt'_oneType]
        exact oneLt_alike (fun _ => (hn d hd).2) ra rb (hal' d hd d' hd') (hn d hd).1 (room hd) hq
      · cases ds with
        | nil =>
          cases e
          exact absurd h2 (by simp)
        | cons d₀ ds₀ =>
          refine kas_kind (T := dataType d₀) h2 (fun v hv => ?_) (dataType_other (hn d₀ (List.mem_cons_self ..)).2) (beq_self_eq_true _) hq
          obtain ⟨d, hd, as, r⟩ := e.left v hv
          rw [← dataType_alike (hal' d hd d₀ (List.mem_cons_self ..))]
          exact looks_reads r
theorem each_keys_pa {h : Heap} {ds : List PyData} (hal : AllPa ds) {vs : List Value} (e : EachIs (fun v d => ∃ as, Reads h v d as) vs ds) : EachIs (fun v d => (dataKind h ds).keyOf v = some (keyToks d)) vs ds :=
  (each_mem e).mono fun _ _ ⟨⟨_, r⟩, hd⟩ => kind_some hal hd r
variable {E : Value → Shared → Prop} {β : Type} {vs : List Value} {bs : List β} {enc : β → PyData} {R : Value → β → Prop}
theorem sortVals_pa {h' : Heap} (rev : Bool) (e : EachIs R vs bs) (er : EachIs (fun v b => ∃ as, Reads h' v (enc b) as) vs bs) (hal : AllPa (bs.map enc)) :
    EachIs R (sortVals (dataKind h' (bs.map enc)) rev vs vs) (bs.mergeSort (dataLe rev enc)) :=
  sortVals_each (κ := dataKind h' (bs.map enc)) (fun b => keyToks (enc b)) e (each_of_map enc (each_keys_pa hal (each_map (R := fun v d => ∃ as, Reads h' v d as) enc er)))
/-- sorted(xs) -/
theorem sorted_pa {l : Addr} {Q : Value → Shared → Prop} (hl : s.heap.IsList l vs.toArray) (e : EachIs R vs bs) (er : EachIs (fun v b => ∃ as, Reads s.heap v (enc b) as) vs bs) (hal : AllPa (bs.map enc)) (hk : Sortable (bs.map enc)) (hL : bs.length ≤ sizeLine)
    (hu : ∀ b, b ∈ bs → A.units + 2 + (enc b).depth < cLine) (h : ∀ out, out.length = bs.length → EachIs R out (bs.mergeSort (dataLe false enc)) → Q (.ref (s.heap.objs.size + 1)) { s with heap := sortedAll s.heap vs (List.toArray out) }) :
    wpAny (model prog w) A (call (.builtin "sorted") [.ref l]) Q E s := by
  have er' : EachIs (fun v b => ∃ as, Reads (sortingHeap (copyHeap s.heap vs) (s.heap.objs.size + 1) vs) v (enc b) as) vs bs := er.mono fun _ _ ⟨as, r⟩ => ⟨as, PyProof.Rows.Reads.keeps (fun _ _ => sorting_copy_old) r⟩
  exact sorted_vals hl (sorts_pa (s := { s with heap := sortingHeap (copyHeap s.heap vs) (s.heap.objs.size + 1) vs }) (each_map (R := fun v d => ∃ as, Reads (sortingHeap (copyHeap s.heap vs) (s.heap.objs.size + 1) vs) v d as) enc er') hal hk (bound_map hu)) (by rw [e.length]; exact hL)
    (h _ (by rw [sortVals_length false rfl]; exact e.length) (sortVals_pa false e er' hal))
/-- xs.sort(): no item reads off the list itself -/
theorem list_sort_pa {a : Addr} {n : Nat} {Q : Value → Shared → Prop} (ho : s.heap.get? a = some (seqObj "list" vs.toArray n)) (e : EachIs R vs bs) (er : EachIs (fun v b => ∃ as, Reads s.heap v (enc b) as ∧ a ∉ as) vs bs) (hal : AllPa (bs.map enc)) (hk : Sortable (bs.map enc)) (hL : bs.length ≤ sizeLine)
    (hu : ∀ b, b ∈ bs → A.units + 1 + (enc b).depth < cLine) (h : ∀ out, out.length = bs.length → EachIs R out (bs.mergeSort (dataLe false enc)) → Q .none { s with heap := sortedHeap s.heap a vs (List.toArray out) }) :
    wpAny (model prog w) A (call (.builtin "list.sort") [.ref a]) Q E s := by
  have er' : EachIs (fun v b => ∃ as, Reads (sortingHeap s.heap a vs) v (enc b) as) vs bs := (each_mem er).mono fun v b ⟨⟨as, r, hn⟩, hb⟩ => ⟨as, Reads.keepBut (h' := sortingHeap s.heap a vs) (fun _ _ hb q => sortingHeap_old hb q) (fun o q => by rw [ho] at q; rw [← Option.some.inj q]) _ _ _ (pa_self (hal _ (List.mem_map.mpr ⟨b, hb, rfl⟩) _ (List.mem_map.mpr ⟨b, hb, rfl⟩))) r hn⟩
  refine wpAny_call_entry slot_list_sort ⟨_, ho, rfl⟩ entry_list_sort (list_sort_vals (κ := dataKind (sortingHeap s.heap a vs) (bs.map enc)) ho (sorts_pa (s := { s with heap := sortingHeap s.heap a vs }) (each_map (R := fun v d => ∃ as, Reads (sortingHeap s.heap a vs) v d as) enc er') hal hk (bound_map hu)) (by rw [e.length]; exact hL) ⟨.none, rfl, ?_⟩) (args_list_sort _)
  exact h _ (by rw [sortVals_length false rfl]; exact e.length) (sortVals_pa false e er' hal)
end
end PMS
end
section
set_option Elab.async false
set_option linter.all false
set_option maxRecDepth 100000
set_option autoImplicit false
set_option maxHeartbeats 4000000
namespace PM
open PySem PySem.Spec PyProof.Rows L2 PySem.Calls

def toDD (x : PV) : PyData := (toD x).getD .none
def leD : PV → PV → Bool := PySem.W.dataLe false toDD
/-! ### the sort, by insertion -/
def insD (a : PV) : List PV → List PV
  | [] => [a]
  | b :: bs => if leD a b = true then a :: b :: bs else b :: insD a bs
def isortD : List PV → List PV
  | [] => []
  | a :: l => insD a (isortD l)
theorem leD_trans (a b c : PV) (h1 : leD a b = true) (h2 : leD b c = true) : leD a c = true := (PySem.W.sortLe_total (listOrd itemOrd) false fun x => PySem.W.keyToks (toDD x)).trans a b c h1 h2
theorem leD_total (a b : PV) : (leD a b || leD b a) = true := Bool.or_eq_true_iff.mpr ((PySem.W.sortLe_total (listOrd itemOrd) false fun x => PySem.W.keyToks (toDD x)).total a b)
theorem insD_at {a : PV} : ∀ {l₁ l₂ : List PV}, (∀ b ∈ l₁, leD a b = false) → (∀ b ∈ l₂, leD a b = true) → insD a (l₁ ++ l₂) = l₁ ++ a :: l₂
  | [], [], _, _ => rfl
  | [], b :: l₂, _, h => by
    show insD a (b :: l₂) = a :: b :: l₂
    unfold insD
    rw [if_pos (h b List.mem_cons_self)]
  | b :: l₁, l₂, h1, h2 => by
    show insD a (b :: (l₁ ++ l₂)) = b :: (l₁ ++ a :: l₂)
    unfold insD
    rw [if_neg (by rw [h1 b List.mem_cons_self]; exact Bool.false_ne_true), insD_at (fun c hc => h1 c (List.mem_cons_of_mem _ hc)) h2]
theorem msort_eq : ∀ l : List PV, l.mergeSort leD = isortD l
  | [] => by simp [isortD]
  | a :: l => by
    obtain ⟨l₁, l₂, h1, h2, h3⟩ := List.mergeSort_cons leD_trans leD_total a l
    have hs := List.pairwise_mergeSort leD_trans leD_total (a :: l)
    rw [h1] at hs
    rw [h1]
    unfold isortD
    rw [← msort_eq l, h2]
    refine (insD_at (fun b hb => ?_) fun b hb => ?_).symm
    · simpa using h3 b hb
    · exact (List.pairwise_cons.mp (List.pairwise_append.mp hs).2.1).1 b hb
def isT1 : PyData → Bool
  | .tuple (_ :: _) => true
  | _ => false
def isO1 : PyData → Bool
  | .none => false
  | .tuple _ => false
  | _ => true
def okSort (ds : List PyData) : Bool := (ds.all fun d => ds.all fun e => PMS.pa d e) && ((ds.all isT1 || ds.all isO1) && ds.all fun d => decide (d.depth ≤ 64))
theorem okSort_all {ds : List PyData} (h : okSort ds = true) : PMS.AllPa ds ∧ PySem.W.Sortable ds ∧ ∀ d ∈ ds, d.depth ≤ 64 := by
  obtain ⟨h1, h2⟩ := He.ba h
  obtain ⟨h3, h4⟩ := He.ba h2
  refine ⟨fun d hd e he => List.all_eq_true.mp (List.all_eq_true.mp h1 d hd) e he, ?_, fun d hd => of_decide_eq_true (List.all_eq_true.mp h4 d hd)⟩
  rcases Bool.or_eq_true_iff.mp h3 with q | q
  · refine .inl fun d hd => ?_
    have z := List.all_eq_true.mp q d hd
    unfold isT1 at z
    split at z
    · exact ⟨_, _, rfl⟩
    · cases z
  · refine .inr fun d hd => ?_
    have z := List.all_eq_true.mp q d hd
    unfold isO1 at z
    split at z
    · cases z
    · cases z
    · rename_i h1 h2
      exact ⟨fun e => h1 (by rw [e]), fun xs e => h2 xs (by rw [e])⟩
def sortP (xs : List PV) : Option (List PV) := match toDs xs with
  | some ds => if okSort ds = true ∧ xs.length ≤ 1000000 then some (isortD xs) else none
  | none => none
/-- pairs of a value and what it is -/
structure Pr (K : PySem.W.Frag) (H : Hp) (bs : List (PV × V)) : Prop where
  dp : ∀ b ∈ bs, Dp K H b.2 (toDD b.1)
  ok : okSort (bs.map fun b => toDD b.1) = true
  len : bs.length ≤ 1000000
def prSort (bs : List (PV × V)) : List (PV × V) := bs.mergeSort (PySem.W.dataLe false fun b => toDD b.1)
section
variable {K : PySem.W.Frag} {ρ : List Addr} {F H : Hp}
theorem toDs_dd : ∀ {xs : List PV} {ds : List PyData}, toDs xs = some ds → ds = xs.map toDD
  | [], ds, h => by simp only [toDs] at h; cases h; rfl
  | x :: xs, ds, h => by
    simp only [toDs] at h
    split at h
    · rename_i d ds h1 h2
      cases h
      rw [List.map_cons, ← toDs_dd h2]
      unfold toDD
      rw [h1]; rfl
    · cases h
theorem rvs_pair : ∀ {xs : List PV} {vs : List V} {ds : List PyData}, LeR F H → RVs K ρ F xs vs → toDs xs = some ds → ∃ bs : List (PV × V), bs.map (·.1) = xs ∧ bs.map (·.2) = vs ∧ (∀ b ∈ bs, RV K ρ F b.1 b.2 ∧ Dp K H b.2 (toDD b.1))
  | [], _, ds, _, r, _ => by cases r; exact ⟨[], rfl, rfl, by simp⟩
  | x :: xs, _, ds, l, r, h => by
    simp only [toDs] at h
    split at h
    · rename_i d ds h1 h2
      cases h
      cases r with
      | cons a b =>
        obtain ⟨bs, e1, e2, hb⟩ := rvs_pair l b h2
        refine ⟨(x, _) :: bs, by rw [List.map_cons, e1], by rw [List.map_cons, e2], fun c hc => ?_⟩
        rcases List.mem_cons.mp hc with rfl | hc
        · exact ⟨a, by unfold toDD; rw [h1]; exact RV.dp l _ _ _ a h1⟩
        · exact hb c hc
    · cases h
theorem rvs_map : ∀ {bs : List (PV × V)}, (∀ b ∈ bs, RV K ρ F b.1 b.2) → RVs K ρ F (bs.map (·.1)) (bs.map (·.2))
  | [], _ => .nil
  | b :: bs, h => .cons (h b List.mem_cons_self) (rvs_map fun c hc => h c (List.mem_cons_of_mem _ hc))
theorem prSort_fst (bs : List (PV × V)) : (prSort bs).map (·.1) = (bs.map (·.1)).mergeSort leD := List.map_mergeSort fun a _ b _ => rfl
theorem sortP_pr {xs ys : List PV} {vs : List V} (l : LeR F H) (r : RVs K ρ F xs vs) (e : sortP xs = some ys) : ∃ bs, bs.map (·.1) = xs ∧ bs.map (·.2) = vs ∧ Pr K H bs ∧ RVs K ρ F ys ((prSort bs).map (·.2)) := by
  unfold sortP at e
  split at e
  · rename_i ds hd
    split at e
    · rename_i c
      cases e
      obtain ⟨bs, e1, e2, hb⟩ := rvs_pair l r hd
      have ed := toDs_dd hd
      refine ⟨bs, e1, e2, ⟨fun b hb' => (hb b hb').2, ?_, by rw [← e1, List.length_map] at c; exact c.2⟩, ?_⟩
      · have z : (bs.map fun b => toDD b.1) = ds := by rw [ed, ← e1, List.map_map]; rfl
        rw [z]; exact c.1
      · rw [← msort_eq, ← e1, ← prSort_fst]
        exact rvs_map fun b hb' => (hb b ((List.mergeSort_perm _ _).mem_iff.mp hb')).1
    · cases e
  · cases e
end
theorem each_of_vals : ∀ {bs : List (PV × V)} {us : List Value}, Vals (bs.map (·.2)) us → PySem.W.EachIs (fun v (b : PV × V) => RelV b.2 v) us bs
  | [], _, h => by
    have h' : Vals [] _ := h
    cases h'; exact .nil
  | b :: bs, _, h => by
    have h' : Vals (b.2 :: bs.map (·.2)) _ := h
    cases h' with
    | cons r t => exact .cons r (each_of_vals t)
theorem vals_of_each : ∀ {bs : List (PV × V)} {us : List Value}, PySem.W.EachIs (fun v (b : PV × V) => RelV b.2 v) us bs → Vals (bs.map (·.2)) us
  | [], _, h => by cases h; exact .nil
  | b :: bs, _, h => by cases h with | cons r t => exact .cons r (vals_of_each t)
theorem each_with {bs : List (PV × V)} {us : List Value} {R S : Value → PV × V → Prop} (h : PySem.W.EachIs R us bs) (g : ∀ v b, b ∈ bs → R v b → S v b) : PySem.W.EachIs S us bs := (PySem.W.each_mem h).mono fun v b q => g v b q.2 q.1
mutual
theorem reads_lt {h : Heap} : ∀ {d : PyData} {v : Value} {as : List Addr}, Reads h v d as → ∀ a ∈ as, a < h.objs.size
  | _, _, _, .none => by simp
  | _, _, _, .bool _ => by simp
  | _, _, _, .int _ _ => by simp
  | _, _, _, .str _ _ => by simp
  | _, _, _, .list h1 h2 h3 h4 => fun a ha => by
    rcases List.mem_cons.mp ha with rfl | q
    · exact Heap.lt_size h1
    · exact readsAll_lt h4 a q
  | _, _, _, .tuple h1 h2 h3 h4 => readsAll_lt h4
  | _, _, _, .dict h1 h2 h3 h4 h5 => fun a ha => by
    rcases List.mem_append.mp ha with q | q
    · rcases List.mem_cons.mp q with rfl | q
      · exact Heap.lt_size h1
      · exact readsAll_lt h4 a q
    · exact readsAll_lt h5 a q
theorem readsAll_lt {h : Heap} : ∀ {d : List PyData} {v : List Value} {as : List Addr}, ReadsAll h v d as → ∀ a ∈ as, a < h.objs.size
  | _, _, _, .nil => by simp
  | _, _, _, .cons a b => fun x hx => (List.mem_append.mp hx).elim (reads_lt a x) (readsAll_lt b x)
end
section
variable {X : Cx} {Tb : TBs} {W : WX} {pins : List (Addr × Obj)} {σ : L2.St} {H : Hp} {s : Shared} {bs : List (PV × V)} {us : List Value}
theorem pr_each (I : Inv X pins σ H s) (P : Pr X.K H bs) (rv : Vals (bs.map (·.2)) us) : PySem.W.EachIs (fun v (b : PV × V) => ∃ as, Reads s.heap v (toDD b.1) as) us bs :=
  each_with (each_of_vals rv) fun v b hb r => Dp.reads I _ _ _ (P.dp b hb) r
theorem okSort_at {bs : List (PV × V)} (h : okSort (bs.map fun b => toDD b.1) = true) {u : Nat} (hu : u + 65 < cLine) : ∀ b ∈ bs, u + (toDD b.1).depth < cLine := fun b hb => by
  have := (okSort_all h).2.2 _ (List.mem_map.mpr ⟨b, hb, rfl⟩)
  omega
def rSortedD (K : PySem.W.Frag) : List V → Hp → VK → Prop := fun vs H Q => ∃ (p : Addr) (bs : List (PV × V)), vs = [V.ref p] ∧ SqL K H p (bs.map (·.2)) ∧ Pr K H bs ∧ ∀ l, H l = none → Q (.ref l) (upd H l (.lst ((prSort bs).map (·.2))))
theorem prSort_len {bs : List (PV × V)} : (prSort bs).length = bs.length := (List.mergeSort_perm _ _).length_eq
theorem cr_sortedD {k : Nat} (hr : Room k X.A) : CallR X (.builtin "sorted") (rSortedD X.K) := by
  intro pins s σ H vs us Q I r h
  obtain ⟨a, bs, rfl, hs, P, q⟩ := h
  obtain ⟨its, rv, hl, _⟩ := I.list hs
  rw [Vals.ref1 r]
  obtain ⟨k1, k2, _⟩ := okSort_all P.ok
  have hu := hr.un
  refine PMS.sorted_pa (enc := fun b : PV × V => toDD b.1) hl.isList (each_of_vals rv) (pr_each I P rv) k1 k2 (mil P.len) (okSort_at P.ok (by omega)) fun out l1 l2 => ?_
  obtain ⟨ep, he'⟩ := PyProof.Rows.sortedAll_at s.heap its out.toArray
  exact ⟨.ref _, upd H (s.heap.objs.size + 1) (.lst ((prSort bs).map (·.2))), I.laid (t' := s.toks) (fun _ _ => PyProof.Rows.sortedAll_old) (Nat.le_succ _) ⟨by rw [List.length_map, prSort_len]; exact mil P.len, out, ep, vals_of_each l2, he'⟩, rfl, q _ (I.hok.fresh (Nat.le_succ _))⟩
def fSorted : List PV → Hm → Res PV := fun xs h => match xs with
  | [x] => match listOf h x with
    | some ys => match sortP ys with
      | some zs => .ok (.lst zs) h
      | none => .stuck
    | none => .stuck
  | _ => .stuck
theorem fSorted_ok : CalM X.K Tb W fSorted (rSortedD X.K) := by
  intro ρ F h H σ xs vs Q s rx q
  unfold fSorted at q
  split at q
  · rename_i x
    cases rx with
    | cons r rr =>
      cases rr
      split at q
      · rename_i ys hy
        split at q
        · rename_i zs hz
          obtain ⟨a, ws, rfl, hq, rq⟩ := listOf_at s r hy
          obtain ⟨bs, e1, e2, P, rz⟩ := sortP_pr s.le rq hz
          refine ⟨a, bs, rfl, by rw [e2]; exact hq, P, fun l hl => ?_⟩
          obtain ⟨s1, x1⟩ := s.laid hl (o := .lst ((prSort bs).map (·.2))) (fun ps e => by cases e)
          exact q _ _ _ _ x1 s1 (.lst (.inl (.inl upd_same)) (x1.rvs rz))
        · exact q.elim
      · exact q.elim
  · exact q.elim
theorem pc_sorted {k : Nat} {a : Expr} {ma : M PV} {p pos : Pos} (hr : Room k X.A) (hg : Gl X "sorted") (hm : X.mg "sorted" = none) (ha : PM X Tb W a ma) (he : starEach [a] X.env = (false, eval a X.env) :: starEach [] X.env := by rfl) : PM X Tb W (.Call (.Name "sorted" p) [a] [] pos) (mCall fSorted (mCons ma mNil)) :=
  pm_callB (cr_sortedD hr) fSorted_ok hg hm b_sorted (pma_cons ha pma_nil he) (by decide) (by decide) he
end
end PM
end
section
set_option Elab.async false
set_option linter.all false
set_option maxRecDepth 100000
set_option autoImplicit false
set_option maxHeartbeats 4000000
namespace PM
open PySem PySem.Spec PyProof.Rows L2

section
variable {X : Cx} {pins : List (Addr × Obj)} {σ : L2.St} {H : Hp} {s : Shared} {bs : List (PV × V)} {us : List Value}
/-- list.sort() of a list that is just made -/
theorem sort_fresh {k : Nat} {A : Around} {E : Value → Shared → Prop} {Q : Value → Shared → Prop} (I : Inv X pins σ H s) (hu : A.units + 100 < cLine) (P : Pr X.K H bs) (rv : Vals (bs.map (·.2)) us)
    (hq : ∀ s', Inv X pins σ (upd H s.heap.objs.size (.lst ((prSort bs).map (·.2)))) s' → Q .none s') : wpAny (model X.prog X.w) A (call (.builtin "list.sort") [.ref s.heap.objs.size]) Q E { s with heap := s.heap.push { cls := .type "list", data := .seq us.toArray } } := by
  obtain ⟨k1, k2, _⟩ := okSort_all P.ok
  have ho : (s.heap.push { cls := .type "list", data := .seq us.toArray }).get? s.heap.objs.size = some (seqObj "list" us.toArray 0) := Heap.get?_push_size _ rfl
  refine PMS.list_sort_pa (s := { s with heap := s.heap.push { cls := .type "list", data := .seq us.toArray } }) (enc := fun b : PV × V => toDD b.1) ho (each_of_vals rv) (each_with (pr_each I P rv) fun v b hb ⟨as, r⟩ => ⟨as, PyProof.Rows.Reads.keeps (fun b o e => Heap.get?_push_of_some _ e) r, fun z => absurd (reads_lt r _ z) (Nat.lt_irrefl _)⟩) k1 k2 (mil P.len) (okSort_at (u := A.units + 1) P.ok (by omega)) fun out l1 l2 => ?_
  obtain ⟨ep, he'⟩ := PyProof.Rows.sortedHeap_at (out := out.toArray) ho
  refine hq _ (I.laid (t' := s.toks) (fun b o e => ?_) (Nat.le_refl _) ⟨by rw [List.length_map, prSort_len]; exact mil P.len, out, ep, vals_of_each l2, he'⟩)
  have hb := Heap.lt_size e
  show (PyProof.Rows.sortedHeap (s.heap.push { cls := .type "list", data := .seq us.toArray }) s.heap.objs.size us out.toArray).get? b = some o
  rw [PyProof.Rows.sortedHeap_old (Nat.ne_of_lt hb) (by rw [Heap.size_push]; exact Nat.lt_succ_of_lt hb)]
  exact Heap.get?_push_of_some _ e
end
section
variable {X : Cx} {Tb : TBs} {elt tg iter : Expr} {ifs : List Expr} {scope : Scope} {own : List (Str × Nat)} {pos : Pos} {wi : TI} {c P L : Addr} {W : WX} {g : TG} {tt : L2.St → TT} {te : L2.St → TE} {k : Nat}
theorem pe_gSorted {p pos' : Pos} (hr : Room (k + 5) X.A) (hc : X.calm = true) (hN : X.N.Nodup) (tk : TakesL X L W) (hns : ∀ cls d σ H, W cls d σ H → NoSI X.K cls) (hg : Gl X "sorted") (hm : X.mg "sorted" = none) (TB : GxR.TabB X.base X.mg c P) (hcode : X.env.code = .ref c)
    (ok : GenOk X.N X.env.scope scope own) (hi : PI X tg iter wi) (rd : ∀ σ, GRd X L W σ k elt tg ifs scope g tt te) (hs : ∀ v, genFold iter X.env v = pure v)
    (he : starEach [GE elt tg iter ifs scope pos] X.env = (false, eval (GE elt tg iter ifs scope pos) X.env) :: starEach [] X.env := by rfl) :
    PE X (.Call (.Name "sorted" p) [GE elt tg iter ifs scope pos] [] pos') (tGenL wi g tt te (own.map (·.2)) P fun Q ys H => ∃ bs : List (PV × V), ys = bs.map (·.2) ∧ Pr X.K H bs ∧ ∀ T, H T = none → Q (.ref T) (upd H T (.lst ((prSort bs).map (·.2))))) := by
  refine ⟨fun pins s σ H Q I h => ?_⟩
  refine wpAny_Call_Name_kw (ld_blt I hg hm (by first | rfl | decide +kernel) ?_)
  refine PyProof.Rows.callWith_builtin1 ?_ he (by rfl)
  rw [he]
  show wpAny _ _ (spliced ((false, eval (GE elt tg iter ifs scope pos) X.env) :: backTo pos' (starEach [] X.env))) _ _ s
  refine Calls.spliced_cons (gen_make hr hN TB hcode ok hi hs I h fun J H2 s4 fp it tn genv a gi go s5 ⟨m0, hV⟩ r => ?_)
  refine Calls.spliced_nil ?_
  have hA : X.A.frames = some X.stack := I.ok.frames
  refine Calls.call_function_entry kind_sorted plain_sorted entry_sorted (args_sorted1 _) ?_
  unfold Builtin.«sorted»
  refine wpAny_bind (m := checkCount "sorted" 1 1 _) (wpAny_pure ?_)
  refine wpAny_bind (wpAny_mono (ready_collect (A := X.A.in1) (Q := fun us s' => ∃ H' ys, Inv X pins σ H' s' ∧ Vals ys us ∧ ∃ bs : List (PV × V), ys = bs.map (·.2) ∧ Pr X.K H' bs ∧ ∀ T, H' T = none → Q (.ref T) (upd H' T (.lst ((prSort bs).map (·.2))))) r hc ok.co tk hns (hr.in1.mono (by omega)) hA (rd σ) hV fun H' s' us ys J1 f rv => ⟨H', ys, J1, rv, f⟩) (fun us s' h => ?_) fun e s' h => h)
  obtain ⟨H', ys, J1, rv, bs, rfl, P, q⟩ := h
  have hf : H' s'.heap.objs.size = none := J1.hok.fresh (Nat.le_refl _)
  have hun := hr.un
  refine wpAny_bind (wpAny_newList ?_ (by rw [← rv.length, List.length_map]; exact mil P.len))
  refine wpAny_bind (wpAny_holding (wpAny_mono (sort_fresh (k := 0) (A := X.A.in1) (Q := fun _ s'' => ∃ H2, H2 = upd H' s'.heap.objs.size (.lst ((prSort bs).map (·.2))) ∧ Inv X pins σ H2 s'') J1 (by show X.A.in1.units + 100 < cLine; have : X.A.in1.units ≤ X.A.units + 1 := Nat.le_refl _; omega) P rv fun s'' J2 => ⟨_, rfl, J2⟩) (fun _ s'' x => ?_) fun _ _ e => e))
  obtain ⟨H2, rfl, J2⟩ := x
  exact wpAny_pure ⟨_, rfl, .ref s'.heap.objs.size, _, J2, rfl, q _ hf⟩
def finSort : List PV → Hm → Res PV := fun ys h => match sortP ys with
  | some zs => .ok (.lst zs) h
  | none => .stuck
theorem finSort_ok {K : PySem.W.Frag} : FinR K Tb W finSort fun Q ys H => ∃ bs : List (PV × V), ys = bs.map (·.2) ∧ Pr K H bs ∧ ∀ T, H T = none → Q (.ref T) (upd H T (.lst ((prSort bs).map (·.2)))) := by
  intro ρ0 F0 H0 ρ F H h σ S ys acc Q x s g n0 r l p
  unfold finSort at p
  split at p
  · rename_i zs hz
    obtain ⟨bs, e1, e2, P, rz⟩ := sortP_pr s.le r hz
    refine ⟨bs, e2.symm, P, fun T hT => ?_⟩
    obtain ⟨s1, x1⟩ := s.laid (o := .lst ((prSort bs).map (·.2))) hT (fun ps z => by cases z)
    exact p _ _ _ _ (x.trans x1) s1 (.lst (.inl (.inl upd_same)) (x1.rvs rz))
  · exact p.elim
end
section
variable {X : Cx} {Tb : TBs} {W : WX} {elt tg iter : Expr} {ifs : List Expr} {scope : Scope} {own : List (Str × Nat)} {ns : List Nat} {pos : Pos} {mi : M Src} {g : Gm} {mt : M Bool} {me : M PV} {c P L : Addr} {k : Nat} {xs : List Str}
theorem pm_gSorted {p pos' : Pos} (hr : Room (k + 5) X.A) (hc : X.calm = true) (hN : X.N.Nodup) (tk : TakesL X L W) (hg : Gl X "sorted") (hm : X.mg "sorted" = none) (TB : GxR.TabB X.base X.mg c P) (hP : P ∈ Tb) (hcode : X.env.code = .ref c) (ok : GenOk X.N X.env.scope scope own)
    (hi : PMI X Tb W tg iter mi) (hns : ∀ i ∈ ns, i ∈ own.map (·.2)) (hex : ∀ c ∈ xs, NoSI X.K (.ref (He.ga X.K c)))
    (pg : AtGen X scope fun Y _ => PMG Y Tb tg g ns) (pt : ∀ W', AtGen X scope fun Y C => Room k Y.A → TakesL Y C W' → PMTs Y Tb W' ifs mt) (pe : ∀ W', AtGen X scope fun Y C => Room k Y.A → TakesL Y C W' → PM Y Tb W' elt me) (hs : ∀ v, genFold iter X.env v = pure v)
    (he : starEach [GE elt tg iter ifs scope pos] X.env = (false, eval (GE elt tg iter ifs scope pos) X.env) :: starEach [] X.env := by rfl) :
    PM X Tb W (.Call (.Name "sorted" p) [GE elt tg iter ifs scope pos] [] pos') (mGenL (own.map (·.2)) xs finSort mi g mt me) :=
  ⟨PE.imp (pe_gSorted (W := WOnly X.K xs W) hr hc hN (takesL_only tk) (fun cls d σ H w => by obtain ⟨_, c, hc, rfl⟩ := w; exact hex c hc) hg hm TB hcode ok hi.pi (fun σ => ⟨fun A s H cl C code fp pn xe => (pg A s H cl C code fp pn xe).pg, fun σ A s H cl C code fp pn xe r t => (pt _ A s H cl C code fp pn xe r t).pt, fun σ A s H cl C code fp pn xe r t => (pe _ A s H cl C code fp pn xe r t).pe⟩) hs he)
    fun σ H Q q => tGenL_of finSort_ok hP hns q⟩
end
end PM
end
section
set_option Elab.async false
set_option linter.all false
set_option maxRecDepth 100000
set_option autoImplicit false
set_option maxHeartbeats 4000000
namespace PMU
open PySem PySem.Spec PyProof.Rows

section
variable {prog : Program} {w : World} {A : Around} {E : Value → Shared → Prop} {s : Shared}
theorem add_lists {a b : Addr} {its jts : List Value} {Q : Value → Shared → Prop} (ha : s.heap.IsList a its.toArray) (hb : s.heap.IsList b jts.toArray) (hz : its.length + jts.length ≤ sizeLine)
    (q : Q (.ref s.heap.objs.size) { s with heap := s.heap.push { cls := .type "list", data := .seq (its ++ jts).toArray } }) : wpAny (model prog w) A (binaryOp .Add (.ref a) (.ref b)) Q E s := by
  obtain ⟨⟨c1, dd, dt, sl⟩, ho, hc, n, hd⟩ := ha
  obtain ⟨⟨c2, dd2, dt2, sl2⟩, ho2, hc2, n2, hd2⟩ := hb
  simp only at hc hd hc2 hd2
  subst hc hd hc2 hd2
  have e : its.toArray ++ jts.toArray = (its ++ jts).toArray := by simp
  refine concat_meets ⟨_, ho, rfl⟩ ⟨_, ho2, rfl⟩ noFill_list_add seq_list_add PySem.F.slot_list_add PySem.F.entry_list_add (PySem.F.args_list_add_2 _ _) (list_addW a b its.toArray jts.toArray n n2 dd dd2 sl sl2 (by rw [List.size_toArray, List.size_toArray]; omega)) ⟨ho, ho2, ?_⟩
  rw [e]
  exact q
end
section
variable {prog : Program} {w : World} {A : Around} {R : Result → Shared → Prop} {I : Addr} {fp wr : List Addr} {G : Array GenState → Array GenState → Prop} {n : Nat} {P : Nat → Value → Prop} {St : Nat → Shared → Prop}
theorem catR_len : ∀ (row : Nat → List Value) (k i : Nat), ((List.range' i (k + 1)).flatMap row) = row i ++ (List.range' (i + 1) k).flatMap row := fun row k i => by
  rw [List.range'_succ, List.flatMap_cons]
theorem sum_loopL (W : WalksS prog w A.in1 I fp wr G n P St) (K : Heap) (row : Nat → List Value) (S : Addr) (hSf : S ∉ fp) (hfpS : ∀ b ∈ fp, b < S) (hrow : ∀ i v, P i v → ∃ r, v = .ref r ∧ K.IsList r (row i).toArray) (hKS : ∀ b o, K.get? b = some o → b ≠ S ∧ b ∉ wr) :
    ∀ (k i : Nat) (s : Shared) (t : Addr) (acc : List Value) (c : Nat), n - i = k → i ≤ n → St i s → s.heap.get? S = some { cls := .type "list", dict := none, data := .seq #[.ref t] c, slots := #[] } → (∀ b o, K.get? b = some o → s.heap.get? b = some o) → 
    s.heap.IsList t acc.toArray → t ≠ S → t ∉ wr → acc.length + ((List.range' i k).flatMap row).length ≤ sizeLine →
    (∀ s' t', Moved (S :: wr) G s s' → (k = 0 → t' = t) → (0 < k → S < t' ∧ s'.heap.get? t' = some { cls := .type "list", data := .seq (acc ++ (List.range' i k).flatMap row).toArray }) → R (.ok (.ret (.ref t'))) s') →
    codeAny (model prog w) A (.builtin "sum.loop" ⟨[.ref I, .ref S, rawInt 2, rawInt 0], []⟩) R s := by
  have hSw : S ∉ wr := fun h => hSf (W.sub _ h)
  have hsub : ∀ b ∈ wr, b ∈ S :: wr := fun b hb => List.mem_cons_of_mem _ hb
  intro k
  induction k with
  | zero =>
    intro i s t acc c hk hi hst hS hKs ht htS htw hz hR
    have hin : i = n := by omega
    subst hin
    refine codeAny_builtin F.entry_sum_loop ?_
    rw [Around.under_plainId F.plain_sum_loop _]
    show wpAny _ A.in1 (seqItems? (.ref S) >>= _) _ _ s
    refine wpAny_bind (wpAny_seqItems hS rfl ?_)
    show wpAny _ A.in1 (tryCatch (pyNext (.ref I)) _ >>= _) _ _ s
    refine wpAny_bind (wpAny_tryCatch (W.done s _ _ hst fun s' hm => ?_))
    exact wpAny_pure (hR s' t (hm.mono hsub) (fun _ => rfl) fun h => absurd h (by omega))
  | succ k ih =>
    intro i s t acc c hk hi hst hS hKs ht htS htw hz hR
    have hlt : i < n := by omega
    rw [catR_len] at hz
    rw [catR_len] at hR
    refine codeAny_builtin F.entry_sum_loop ?_
    rw [Around.under_plainId F.plain_sum_loop _]
    show wpAny _ A.in1 (seqItems? (.ref S) >>= _) _ _ s
    refine wpAny_bind (wpAny_seqItems hS rfl ?_)
    show wpAny _ A.in1 (tryCatch (pyNext (.ref I)) _ >>= _) _ _ s
    refine wpAny_bind (wpAny_tryCatch (W.item i s _ _ hlt hst fun v s' hP hst' hm => ?_))
    obtain ⟨r, rfl, hr⟩ := hrow i v hP
    have hS' := hm.heap S _ hSw hS
    have hKs' : ∀ b o, K.get? b = some o → s'.heap.get? b = some o := fun b o e => hm.heap b o (hKS b o e).2 (hKs b o e)
    have ht' : s'.heap.IsList t acc.toArray := by
      obtain ⟨o, e, x⟩ := ht
      exact ⟨o, hm.heap t o htw e, x⟩
    have hr' : s'.heap.IsList r (row i).toArray := by
      obtain ⟨o, e, x⟩ := hr
      exact ⟨o, hKs' r o e, x⟩
    show wpAny _ A.in1 ((holding [Value.ref r] (binaryOp .Add (.ref t) (.ref r))).attempt >>= _) _ _ _
    simp only [List.length_append] at hz
    refine wpAny_bind (wpAny_attempt (wpAny_holding (add_lists ht' hr' (by omega) ?_)))
    generalize hN : s'.heap.push { cls := .type "list", data := .seq (acc ++ row i).toArray } = h1
    have hnew : h1.get? s'.heap.objs.size = some { cls := .type "list", data := .seq (acc ++ row i).toArray } := by rw [← hN]; exact Heap.get?_push_size _ rfl
    have hold : ∀ b o, s'.heap.get? b = some o → h1.get? b = some o := fun b o e => by rw [← hN]; exact Heap.get?_push_of_some _ e
    have hsz1 : h1.objs.size = s'.heap.objs.size + 1 := by rw [← hN]; exact Heap.size_push _ _
    show wpAny _ A.in1 (updateSeq S (fun _ => #[.ref s'.heap.objs.size]) >>= _) _ _ _
    have hS1 := hold S _ hS'
    have hSlt : S < s'.heap.objs.size := Heap.lt_size hS'
    refine wpAny_bind (wpAny_updateSeq hS1 rfl ?_)
    have hS₂ := Heap.get?_update_self (Obj.mapSeq fun _ => #[Value.ref s'.heap.objs.size]) hS1 rfl
    refine wpAny_bind (wpAny_letGo ?_)
    have keep : ∀ b o, b ≠ S → h1.get? b = some o → (((h1.update S (Obj.mapSeq fun _ => #[Value.ref s'.heap.objs.size])).update S (Obj.mapSeq fun _ => #[Value.ref s'.heap.objs.size]))).get? b = some o := fun b o hb e =>
      (Heap.get?_update_other _ _ (Ne.symm hb)).trans ((Heap.get?_update_other _ _ (Ne.symm hb)).trans e)
    have hneS : s'.heap.objs.size ≠ S := Nat.ne_of_gt hSlt
    refine wpAny_bind (wpAny_updateSeq hS₂ rfl (wpAny_pure ⟨plainId_quiet F.plain_sum_loop _, ?_⟩))
    have hnw : s'.heap.objs.size ∉ wr := fun h => absurd (hfpS _ (W.sub _ h)) (Nat.not_lt.mpr (Nat.le_of_lt hSlt))
    have hn2 := keep _ _ hneS hnew
    refine ih (i + 1) _ s'.heap.objs.size (acc ++ row i) _ (by omega) hlt (W.frame _ s' _ _ hst' (Nat.le_refl _) fun b hb o e => keep b o (fun z => hSf (z ▸ hb)) (hold b o e)) (Heap.get?_update_self _ hS₂ rfl) (fun b o e => keep b o (hKS b o e).1 (hold b o (hKs' b o e)))
      ⟨_, hn2, rfl, _, rfl⟩ hneS hnw (by rw [List.length_append]; omega) fun s'' t' hm'' h0 h1 => ?_
    refine hR s'' t' (Moved.trans W.gtrans ((hm.mono hsub).then_heap (Nat.le_refl _) fun b o hb e => keep b o (fun z => hb (by rw [z]; exact List.mem_cons_self)) (hold b o e)) hm'') (fun z => absurd z (Nat.succ_ne_zero k)) fun _ => ?_
    rcases Nat.eq_zero_or_pos k with hk0 | hk0
    · obtain rfl := h0 hk0
      subst hk0
      refine ⟨hSlt, ?_⟩
      rw [show (List.range' (i + 1) 0).flatMap row = [] from rfl, List.append_nil]
      exact hm''.heap _ _ (fun z => (List.mem_cons.mp z).elim hneS hnw) hn2
    · obtain ⟨h2, h3⟩ := h1 hk0
      refine ⟨h2, ?_⟩
      rw [← List.append_assoc]
      exact h3
end
section
variable {prog : Program} {w : World} {A : Around} {E : Value → Shared → Prop} {s : Shared}
theorem sub_list_bytearray : isSubtype (.type "list") (.type "bytearray") = pure false := by rw [isSubtype_type]; kernel_rfl
theorem args_sum2 (a b : Value) : argsOk "sum" ⟨[a, b], []⟩ := by unfold argsOk; kernel_rfl
/-- sum(rows, z) of lists -/
theorem call_sumL {l z : Addr} {vs zs : List Value} {row : Nat → List Value} {Q : Value → Shared → Prop} (hh : A.handled = none) (hl : s.heap.IsList l vs.toArray) (hz : s.heap.IsList z zs.toArray) (hrow : ∀ (i : Nat) v, vs[i]? = some v → ∃ r, v = .ref r ∧ s.heap.IsList r (row i).toArray)
    (hn : zs.length + ((List.range' 0 vs.length).flatMap row).length ≤ sizeLine)
    (h : ∀ (h' : Heap) (tk : Nat) (t : Addr), (∀ b o, s.heap.get? b = some o → h'.get? b = some o) → (vs.length = 0 → t = z) → (0 < vs.length → s.heap.objs.size ≤ t ∧ h'.get? t = some { cls := .type "list", data := .seq (zs ++ (List.range' 0 vs.length).flatMap row).toArray }) → Q (.ref t) { s with heap := h', toks := tk }) :
    wpAny (model prog w) A (call (.builtin "sum") [.ref l, .ref z]) Q E s := by
  refine call_function_tree F.kind_sum F.plain_sum F.entry_sum (args_sum2 _ _) ?_
  unfold Builtin.«sum»
  simp only [List.length_cons, List.length_nil]
  rw [if_neg (by decide)]
  refine wpAny_bind (wpAny_of_eq (show Builtin.Builtins.bindParams "sum" ["start"] 0 ⟨[.ref z], []⟩ = pure [some (.ref z)] from rfl) ?_)
  refine wpAny_bind (PySem.W.iter_listW (A := A.in1) hh hl fun s₂ e W st hfp hw hk => ?_)
  have hlt := Heap.lt_size (show s.heap.get? z = some _ from hz.choose_spec.1)
  have tyz : s₂.TypeIs (.ref z) "list" := by
    obtain ⟨o, ho, hc, _⟩ := hz
    exact ⟨o, hk _ _ ho, hc⟩
  refine wpAny_bind (wpAny_pure ?_)
  simp only [List.forIn_cons, List.forIn_nil]
  refine wpAny_bind (wpAny_bind (wpAny_bind (wpAny_isInstance (T := "list") (b := false) tyz F.sub_list_str ?_)))
  simp only [Bool.false_eq_true, if_false]
  refine wpAny_pure (wpAny_bind (wpAny_bind (wpAny_isInstance (T := "list") (b := false) tyz F.sub_list_bytes ?_)))
  simp only [Bool.false_eq_true, if_false]
  refine wpAny_pure (wpAny_bind (wpAny_bind (wpAny_isInstance (T := "list") (b := false) tyz sub_list_bytearray ?_)))
  simp only [Bool.false_eq_true, if_false]
  refine wpAny_pure (wpAny_pure ?_)
  refine wpAny_bind (wpAny_newObj_type ?_)
  have hSI : s.heap.objs.size < s₂.heap.objs.size := by rw [e]; show _ < (s.heap.push _).objs.size; rw [Heap.size_push]; exact Nat.lt_succ_self _
  have hSf : s₂.heap.objs.size ∉ [s.heap.objs.size, l] := fun hm => Nat.lt_irrefl _ (hfp _ hm)
  have kk : ∀ b o, s.heap.get? b = some o → (s₂.heap.push { cls := .type "list", data := .seq [Value.ref z].toArray }).get? b = some o := fun b o q => Heap.get?_push_of_some _ (hk b o q)
  refine wpAny_pure ⟨plainId_quiet F.plain_sum_loop _, sum_loopL W s.heap row s₂.heap.objs.size hSf hfp (fun i v q => hrow i v (by simpa using q)) (fun b o q => ⟨Nat.ne_of_lt (Nat.lt_trans (Heap.lt_size q) hSI), fun m => absurd (Heap.lt_size q) (by rw [List.mem_singleton.mp m]; exact Nat.lt_irrefl _)⟩)
    vs.length 0 { s₂ with heap := s₂.heap.push { cls := .type "list", data := .seq [Value.ref z].toArray } } z zs 0 (by simp) (Nat.zero_le _) (W.frame 0 s₂ _ _ st (Nat.le_refl _) fun b _ o q => Heap.get?_push_of_some _ q) (Heap.get?_push_size _ rfl) kk ?_ (Nat.ne_of_lt (Nat.lt_trans hlt hSI)) (fun m => absurd hlt (by rw [List.mem_singleton.mp m]; exact Nat.lt_irrefl _)) hn fun s' t' hm h0 h1 => ?_⟩
  · obtain ⟨o, ho, x⟩ := hz
    exact ⟨o, kk _ _ ho, x⟩
  · have eq : s' = { s with heap := s'.heap, toks := s'.toks } := by
      have g1 := hm.gens
      have g2 := hm.drawn
      have g3 := hm.os
      subst e
      cases s'
      simp only at g1 g2 g3
      subst g1 g2 g3
      rfl
    rw [eq]
    refine h s'.heap s'.toks t' (fun b o q => hm.heap b o (fun m => ?_) (kk b o q)) h0 fun hp => ?_
    · rcases List.mem_cons.mp m with m | m
      · exact absurd (Nat.lt_trans (Heap.lt_size q) hSI) (by rw [m]; exact Nat.lt_irrefl _)
      · exact absurd (Heap.lt_size q) (by rw [List.mem_singleton.mp m]; exact Nat.lt_irrefl _)
    · obtain ⟨h2, h3⟩ := h1 hp
      exact ⟨Nat.le_of_lt (Nat.lt_trans hSI h2), h3⟩
end
end PMU
end
section
set_option Elab.async false
set_option linter.all false
set_option maxRecDepth 100000
set_option autoImplicit false
set_option maxHeartbeats 4000000
namespace PM
open PySem PySem.Spec PyProof.Rows L2

/-! ### sum(rows, z) -/
def rowsOf (h : Hm) : List PV → Option (List (List PV))
  | [] => some []
  | x :: xs => match listOf h x, rowsOf h xs with
    | some r, some rs => some (r :: rs)
    | _, _ => none
def fSumL : List PV → Hm → Res PV := fun xs h => match xs with
  | [x, y] => match listOf h x, listOf h y with
    | some rs, some zs => match rowsOf h rs with
      | some rows => if zs.length + rows.flatten.length ≤ 1000000 then (if rs.isEmpty then .ok y h else .ok (.lst (zs ++ rows.flatten)) h) else .stuck
      | none => .stuck
    | _, _ => .stuck
  | _ => .stuck
inductive RowsAt (K : PySem.W.Frag) (H : Hp) : List V → List (List V) → Prop
  | nil : RowsAt K H [] []
  | cons {r : Addr} {xs : List V} {vs : List V} {rows : List (List V)} : SqL K H r xs → RowsAt K H vs rows → RowsAt K H (.ref r :: vs) (xs :: rows)
theorem RowsAt.len {K : PySem.W.Frag} {H : Hp} : ∀ {vs : List V} {rows : List (List V)}, RowsAt K H vs rows → vs.length = rows.length
  | _, _, .nil => rfl
  | _, _, .cons _ t => by simp [RowsAt.len t]
theorem RowsAt.get {K : PySem.W.Frag} {H : Hp} : ∀ {vs : List V} {rows : List (List V)} {i : Nat} {v : V}, RowsAt K H vs rows → vs[i]? = some v → ∃ r, v = .ref r ∧ SqL K H r (rows.getD i [])
  | _, _, i, v, .nil, e => by simp at e
  | _, _, 0, v, .cons h t, e => by
    simp at e; subst e
    exact ⟨_, rfl, h⟩
  | _, _, i + 1, v, .cons h t, e => by
    obtain ⟨r, e1, e2⟩ := RowsAt.get (i := i) t (by simpa using e)
    exact ⟨r, e1, by simpa using e2⟩
def rSumL (K : PySem.W.Frag) : List V → Hp → VK → Prop := fun vs H Q => ∃ (a z : Addr) (rs zs : List V) (rows : List (List V)), vs = [V.ref a, V.ref z] ∧ SqL K H a rs ∧ SqL K H z zs ∧ RowsAt K H rs rows ∧ zs.length + rows.flatten.length ≤ sizeLine ∧
  (rs = [] → Q (.ref z) H) ∧ (rs ≠ [] → ∀ p, H p = none → Q (.ref p) (upd H p (.lst (zs ++ rows.flatten))))
theorem vals_flat {rows : List (List V)} {row : Nat → List Value} (h : ∀ i, i < rows.length → Vals (rows.getD i []) (row i)) : Vals rows.flatten ((List.range' 0 rows.length).flatMap row) := by
  have key : ∀ (rows : List (List V)) (j : Nat) (row : Nat → List Value), (∀ i, i < rows.length → Vals (rows.getD i []) (row (j + i))) → Vals rows.flatten ((List.range' j rows.length).flatMap row) := by
    intro rows
    induction rows with
    | nil => intro j row _; exact .nil
    | cons r rs ih =>
      intro j row h
      rw [List.length_cons, List.range'_succ, List.flatMap_cons, List.flatten_cons]
      refine Vals.append (h 0 (by simp)) (ih (j + 1) row fun i hi => ?_)
      have := h (i + 1) (by simpa using hi)
      rw [show j + 1 + i = j + (i + 1) by omega]
      simpa using this
  exact key rows 0 row fun i hi => by rw [Nat.zero_add]; exact h i hi
section
variable {X : Cx} {Tb : TBs} {W : WX}
theorem cr_sumL (hc : X.calm = true) : CallR X (.builtin "sum") (rSumL X.K) := by
  intro pins s σ H vs us Q I r h
  obtain ⟨a, z, rs, zs, rows, rfl, ha, hz, hr, hn, q0, q1⟩ := h
  obtain ⟨its, rv, hl, _⟩ := I.list ha
  obtain ⟨jts, rw', hlz, _⟩ := I.list hz
  obtain ⟨u1, u2, rfl, e1, e2⟩ : ∃ u1 u2, us = [u1, u2] ∧ RelV (.ref a) u1 ∧ RelV (.ref z) u2 := by
    cases r with
    | cons p q => cases q with | cons p' q' => cases q'; exact ⟨_, _, rfl, p, p'⟩
  obtain rfl : u1 = .ref a := e1
  obtain rfl : u2 = .ref z := e2
  have ex : ∀ i, ∃ kts : List Value, ∀ v, its[i]? = some v → ∃ p, v = .ref p ∧ Vals (rows.getD i []) kts ∧ s.heap.IsList p kts.toArray := fun i => by
    cases e : rs[i]? with
    | none =>
      refine ⟨[], fun v hv => ?_⟩
      have h1 := List.getElem?_eq_none_iff.mp e
      have h2 := (List.getElem?_eq_some_iff.mp hv).1
      rw [rv.length] at h1
      omega
    | some x =>
      obtain ⟨p, rfl, hp⟩ := hr.get e
      obtain ⟨kts, rk, hk, _⟩ := I.list hp
      refine ⟨kts, fun v hv => ?_⟩
      obtain ⟨u, hu, ru⟩ := rv.get e
      rw [hv] at hu
      cases hu
      exact ⟨p, ru, rk, hk.isList⟩
  obtain ⟨row, hrow⟩ := Classical.skolem.mp ex
  have len : its.length = rows.length := by rw [← rv.length]; exact hr.len
  have vf : Vals rows.flatten ((List.range' 0 its.length).flatMap row) := by
    rw [len]
    refine vals_flat fun i hi => ?_
    obtain ⟨p, _, h2, _⟩ := hrow i (its[i]'(by omega)) (by simp [len, hi])
    exact h2
  refine PMU.call_sumL (I.ok.hd hc) hl.isList hlz.isList (fun i v hv => ?_) (by rw [← rw'.length, ← vf.length]; exact hn) fun h' tk t hk h0 h1 => ?_
  · obtain ⟨p, e, _, h3⟩ := hrow i v hv
    exact ⟨p, e, h3⟩
  · have lr : rs.length = its.length := rv.length
    cases hrs : rs with
    | nil =>
      rw [hrs] at lr
      obtain rfl := h0 lr.symm
      exact ⟨.ref _, H, I.kept hk, rfl, q0 hrs⟩
    | cons x xs =>
      obtain ⟨hle, hat⟩ := h1 (by rw [← lr, hrs]; simp)
      exact ⟨.ref t, upd H t (.lst (zs ++ rows.flatten)), I.laid hk hle ⟨by rw [List.length_append]; exact hn, _, _, Vals.append rw' vf, hat⟩, rfl, q1 (by rw [hrs]; simp) t (I.hok.fresh hle)⟩
theorem rowsOf_at {K : PySem.W.Frag} {ρ : List Addr} {F H : Hp} {h : Hm} (s : Sim K Tb ρ F h H) : ∀ {xs : List PV} {vs : List V} {rows : List (List PV)}, RVs K ρ F xs vs → rowsOf h xs = some rows → ∃ vrows, RowsAt K H vs vrows ∧ RVs K ρ F rows.flatten vrows.flatten
  | [], _, rows, r, e => by
    cases r
    simp only [rowsOf] at e; cases e
    exact ⟨[], .nil, .nil⟩
  | x :: xs, _, rows, r, e => by
    simp only [rowsOf] at e
    split at e
    · rename_i q qs h1 h2
      cases e
      cases r with
      | cons a b =>
        obtain ⟨p, ws, rfl, hq, rq⟩ := listOf_at s a h1
        obtain ⟨vrows, r1, r2⟩ := rowsOf_at s b h2
        exact ⟨ws :: vrows, .cons hq r1, by rw [List.flatten_cons, List.flatten_cons]; exact rq.app r2⟩
    · cases e
theorem fSumL_ok : CalM X.K Tb W fSumL (rSumL X.K) := by
  intro ρ F h H σ xs vs Q s rx q
  unfold fSumL at q
  split at q
  · rename_i x y
    cases rx with
    | cons rx1 rr =>
      cases rr with
      | cons ry rr =>
        cases rr
        split at q
        · rename_i rs zs hx hy
          split at q
          · rename_i rows hrows
            split at q
            · rename_i c
              obtain ⟨a, ws, rfl, hq, rq⟩ := listOf_at s rx1 hx
              obtain ⟨z, wz, rfl, hz, rz⟩ := listOf_at s ry hy
              obtain ⟨vrows, r1, r2⟩ := rowsOf_at s rq hrows
              have l1 := rq.len
              refine ⟨a, z, ws, wz, vrows, rfl, hq, hz, r1, by rw [← rz.len, ← r2.len]; exact mil c, fun e => ?_, fun e p hp => ?_⟩
              · subst e
                cases rq
                exact post_ret q s ry
              · have : rs.isEmpty = false := by
                  cases rs with
                  | nil => cases rq; exact absurd rfl e
                  | cons _ _ => rfl
                rw [this] at q
                obtain ⟨s1, x1⟩ := s.laid hp (o := .lst (wz ++ vrows.flatten)) (fun ps e => by cases e)
                exact q _ _ _ _ x1 s1 (.lst (.inl (.inl upd_same)) (x1.rvs (rz.app r2)))
            · exact q.elim
          · exact q.elim
        · exact q.elim
  · exact q.elim
theorem pc_sumL {a b : Expr} {ma mb : M PV} {p pos : Pos} (hc : X.calm = true) (hg : Gl X "sum") (hm : X.mg "sum" = none) (ha : PM X Tb W a ma) (hb : PM X Tb W b mb) (he : starEach [a, b] X.env = (false, eval a X.env) :: starEach [b] X.env := by rfl) (he2 : starEach [b] X.env = (false, eval b X.env) :: starEach [] X.env := by rfl) (hpl : (backTo pos (starEach [b] X.env)).any (·.1) = false := by rfl) :
    PM X Tb W (.Call (.Name "sum" p) [a, b] [] pos) (mCall fSumL (mCons ma (mCons mb mNil))) :=
  pm_callB (cr_sumL hc) fSumL_ok hg hm b_sum (pma_cons ha (pma_cons hb pma_nil he2) he) (by decide) (by decide) he hpl

/-! ### max, min of a list of data -/
mutual
def ofD : PyData → PV
  | .none => .non
  | .bool b => .bl b
  | .int i => .int i
  | .str x => .str x
  | .tuple xs => .tup (ofDs xs)
  | .list xs => .lst (ofDs xs)
  | .dict _ => .non
def ofDs : List PyData → List PV
  | [] => []
  | x :: xs => ofD x :: ofDs xs
end
mutual
theorem ofD_to : ∀ (x : PV) (d : PyData), toD x = some d → ofD d = x
  | .non, d, h => by simp only [toD] at h; cases h; rfl
  | .bl b, d, h => by simp only [toD] at h; cases h; rfl
  | .int b, d, h => by simp only [toD] at h; cases h; rfl
  | .str b, d, h => by simp only [toD] at h; cases h; rfl
  | .tup xs, d, h => by
    simp only [toD] at h
    split at h
    · rename_i ds e
      cases h
      rw [ofD, ofDs_to xs ds e]
    · cases h
  | .lst xs, d, h => by
    simp only [toD] at h
    split at h
    · rename_i ds e
      cases h
      rw [ofD, ofDs_to xs ds e]
    · cases h
  | .ref i, d, h => by simp [toD] at h
  | .fn i, d, h => by simp [toD] at h
theorem ofDs_to : ∀ (xs : List PV) (ds : List PyData), toDs xs = some ds → ofDs ds = xs
  | [], ds, h => by simp only [toDs] at h; cases h; rfl
  | x :: xs, ds, h => by
    simp only [toDs] at h
    split at h
    · rename_i d ds h1 h2
      cases h
      rw [ofDs, ofD_to x d h1, ofDs_to xs ds h2]
    · cases h
end
def okMax (ds : List PyData) : Bool := (ds.all fun d => ds.all fun e => PySem.W.alike d e) && ((ds.all fun d => !isNo d) && decide (PyData.depthAll ds ≤ 64))
theorem okMax_all {ds : List PyData} (h : okMax ds = true) : PySem.W.AlikeAll ds ∧ PyData.depthAll ds ≤ 64 := by
  obtain ⟨h1, h2⟩ := He.ba h
  obtain ⟨h3, h4⟩ := He.ba h2
  refine ⟨⟨fun d hd e he => List.all_eq_true.mp (List.all_eq_true.mp h1 d hd) e he, fun d hd z => ?_⟩, of_decide_eq_true h4⟩
  have := List.all_eq_true.mp h3 d hd
  rw [z] at this
  cases this
def fBest (f : PyData → List PyData → PyData) : List PV → Hm → Res PV := fun xs h => match xs with
  | [x] => match listOf h x with
    | some (y :: ys) => match toDs (y :: ys) with
      | some (d :: ds) => if okMax (d :: ds) = true then .ok (ofD (f d ds)) h else .stuck
      | _ => .stuck
    | _ => .stuck
  | _ => .stuck
abbrev fMax := fBest PySem.W.maxD
abbrev fMin := fBest PySem.W.minD
theorem fold_mem {α : Type} (f : α → α → α) (hf : ∀ a b, f a b = a ∨ f a b = b) : ∀ (xs : List α) (x : α), xs.foldl f x ∈ x :: xs
  | [], x => by simp
  | y :: ys, x => by
    rw [List.foldl_cons]
    rcases List.mem_cons.mp (fold_mem f hf ys (f x y)) with e | e
    · rw [e]
      rcases hf x y with z | z <;> rw [z] <;> simp
    · simp [e]
theorem maxD_mem (d : PyData) (ds : List PyData) : PySem.W.maxD d ds ∈ d :: ds := fold_mem _ (fun a b => by split <;> simp) ds d
theorem minD_mem (d : PyData) (ds : List PyData) : PySem.W.minD d ds ∈ d :: ds := fold_mem _ (fun a b => by split <;> simp) ds d
def rBest (K : PySem.W.Frag) (f : PyData → List PyData → PyData) : List V → Hp → VK → Prop := fun vs H Q => ∃ (a : Addr) (xs : List V) (d : PyData) (ds : List PyData), vs = [V.ref a] ∧ SqL K H a xs ∧ DpAll K H xs (d :: ds) ∧ okMax (d :: ds) = true ∧ ∀ (i : Nat) x e, xs[i]? = some x → (d :: ds)[i]? = some e → e = f d ds → Q x H
theorem DpAll.get {K : PySem.W.Frag} {H : Hp} : ∀ {vs : List V} {ds : List PyData} {i : Nat} {v : V}, DpAll K H vs ds → vs[i]? = some v → ∃ d, ds[i]? = some d ∧ Dp K H v d
  | _, _, i, v, .nil, e => by simp at e
  | _, _, 0, v, .cons h t, e => by simp at e; subst e; exact ⟨_, rfl, h⟩
  | _, _, i + 1, v, .cons h t, e => by
    obtain ⟨d, e1, e2⟩ := DpAll.get (i := i) t (by simpa using e)
    exact ⟨d, by simpa using e1, e2⟩
theorem best_at {pins : List (Addr × Obj)} {s : Shared} {σ : L2.St} {H : Hp} {xs : List V} {us : List Value} {d : PyData} {ds : List PyData} {f : PyData → List PyData → PyData} {Q : VK} (I : Inv X pins σ H s) (rv : Vals xs us) (hd : DpAll X.K H xs (d :: ds)) (ok : okMax (d :: ds) = true) (hf : f d ds ∈ d :: ds)
    (q : ∀ (i : Nat) x e, xs[i]? = some x → (d :: ds)[i]? = some e → e = f d ds → Q x H) {i : Nat} {v : Value} {h' : Heap} {tk : Nat} {bs : List Addr} (hv : us.toArray[i]? = some v) (r : Reads h' v (f d ds) bs) (k : ∀ b o, s.heap.get? b = some o → h'.get? b = some o) : EP X pins σ Q v { s with heap := h', toks := tk } := by
  have hi : i < xs.length := by
    rw [rv.length]
    have := (Array.getElem?_eq_some_iff.mp hv).1
    simpa using this
  obtain ⟨u, hu, ru⟩ := rv.get (List.getElem?_eq_getElem hi)
  have : u = v := by
    have h2 : us[i]? = some v := by simpa using hv
    rw [hu] at h2; exact Option.some.inj h2
  subst this
  obtain ⟨e, he, hde⟩ := DpAll.get hd (List.getElem?_eq_getElem hi)
  obtain ⟨as, re⟩ := Dp.reads I e _ _ hde ru
  have hal := (okMax_all ok).1.1
  have me : e ∈ d :: ds := List.mem_of_getElem? he
  have key := PMS.reads_one e (f d ds) _ _ _ (hal _ me _ me) (hal _ hf _ hf) (PyProof.Rows.Reads.keeps k re) r
  exact ⟨xs[i], H, I.kept k, ru, q i _ e (List.getElem?_eq_getElem hi) he key⟩
theorem cr_maxD {k : Nat} (hr : Room k X.A) : CallR X (.builtin "max") (rBest X.K PySem.W.maxD) := by
  intro pins s σ H vs us Q I r h
  obtain ⟨a, xs, d, ds, rfl, hs, hd, ok, q⟩ := h
  obtain ⟨its, rv, hl, _⟩ := I.list hs
  rw [Vals.ref1 r]
  obtain ⟨as, ra⟩ := Dp.readsAll I _ _ _ hd rv
  obtain ⟨h1, h2⟩ := okMax_all ok
  have hu := hr.un
  exact PySem.W.max_list_data hr.hd hl.isList (by simpa using ra) h1 (by omega) fun i v h' tk bs hv rd kk => best_at I rv hd ok (maxD_mem d ds) q hv rd kk
theorem cr_minD {k : Nat} (hr : Room k X.A) : CallR X (.builtin "min") (rBest X.K PySem.W.minD) := by
  intro pins s σ H vs us Q I r h
  obtain ⟨a, xs, d, ds, rfl, hs, hd, ok, q⟩ := h
  obtain ⟨its, rv, hl, _⟩ := I.list hs
  rw [Vals.ref1 r]
  obtain ⟨as, ra⟩ := Dp.readsAll I _ _ _ hd rv
  obtain ⟨h1, h2⟩ := okMax_all ok
  have hu := hr.un
  exact PySem.W.min_list_data hr.hd hl.isList (by simpa using ra) h1 (by omega) fun i v h' tk bs hv rd kk => best_at I rv hd ok (minD_mem d ds) q hv rd kk
theorem toDs_get : ∀ {xs : List PV} {ds : List PyData} {i : Nat} {e : PyData}, toDs xs = some ds → ds[i]? = some e → ∃ x, xs[i]? = some x ∧ toD x = some e
  | [], ds, i, e, h, he => by simp only [toDs] at h; cases h; simp at he
  | x :: xs, ds, i, e, h, he => by
    simp only [toDs] at h
    split at h
    · rename_i d ds h1 h2
      cases h
      cases i with
      | zero => simp at he; subst he; exact ⟨x, rfl, h1⟩
      | succ i =>
        obtain ⟨y, e1, e2⟩ := toDs_get (i := i) h2 (by simpa using he)
        exact ⟨y, by simpa using e1, e2⟩
    · cases h
theorem fBest_ok {f : PyData → List PyData → PyData} : CalM X.K Tb W (fBest f) (rBest X.K f) := by
  intro ρ F h H σ xs vs Q s rx q
  unfold fBest at q
  split at q
  · rename_i x
    cases rx with
    | cons r rr =>
      cases rr
      split at q
      · rename_i y ys hy
        split at q
        · rename_i d ds hd
          split at q
          · rename_i ok
            obtain ⟨a, ws, rfl, hq, rq⟩ := listOf_at s r hy
            refine ⟨a, ws, d, ds, rfl, hq, RVs.dp s.le _ _ _ rq hd, ok, fun i w e hw he hm => ?_⟩
            obtain ⟨z, hz, hze⟩ := toDs_get hd he
            obtain ⟨w', hw', rz⟩ := rq.get hz
            rw [hw] at hw'; cases hw'
            rw [← hm, ofD_to z e hze] at q
            exact post_ret q s rz
          · exact q.elim
        · exact q.elim
      · exact q.elim
  · exact q.elim
theorem pc_max {k : Nat} {a : Expr} {ma : M PV} {p pos : Pos} (hr : Room k X.A) (hg : Gl X "max") (hm : X.mg "max" = none) (ha : PM X Tb W a ma) (he : starEach [a] X.env = (false, eval a X.env) :: starEach [] X.env := by rfl) : PM X Tb W (.Call (.Name "max" p) [a] [] pos) (mCall fMax (mCons ma mNil)) :=
  pm_callB (cr_maxD hr) fBest_ok hg hm b_max (pma_cons ha pma_nil he) (by decide) (by decide) he
theorem pc_min {k : Nat} {a : Expr} {ma : M PV} {p pos : Pos} (hr : Room k X.A) (hg : Gl X "min") (hm : X.mg "min" = none) (ha : PM X Tb W a ma) (he : starEach [a] X.env = (false, eval a X.env) :: starEach [] X.env := by rfl) : PM X Tb W (.Call (.Name "min" p) [a] [] pos) (mCall fMin (mCons ma mNil)) :=
  pm_callB (cr_minD hr) fBest_ok hg hm b_min (pma_cons ha pma_nil he) (by decide) (by decide) he
end
end PM
end
section
set_option Elab.async false
set_option linter.all false
set_option maxRecDepth 100000
set_option autoImplicit false
set_option maxHeartbeats 4000000
namespace PM
open PySem PySem.Spec PyProof.Rows L2

/-! ### a, b = x, y with plain local names -/
def sPar2 (i j : Nat) (ms : M (List PV)) : Sm := bindS ms fun vs e h => match vs with
  | [v, w] => .nx ((e.set i (.val v)).set j (.val w)) h
  | _ => .stuck
def sPar3 (i j l : Nat) (ms : M (List PV)) : Sm := bindS ms fun vs e h => match vs with
  | [u, v, w] => .nx (((e.set i (.val u)).set j (.val v)).set l (.val w)) h
  | _ => .stuck
section
variable {X : Cx} {Tb : TBs} {W : WX}
theorem pms_par2 (i j : Nat) {x y : Str} {a b : Expr} {ms : M (List PV)} {px py pt pos : Pos} {kt k2 pt2} (hc : X.calm = true) (hN : X.N.Nodup) (ha : PMA X Tb W [a, b] ms) (hij : i ≠ j := by decide) (hi : X.N[i]? = some x := by rfl) (hj : X.N[j]? = some y := by rfl)
    (hx : X.env.scope.names.lookup x = some .local := by rfl) (hy : X.env.scope.names.lookup y = some .local := by rfl)
    (hw : swappedStores [.Tuple [.Name x px, .Name y py] kt pt] (.Tuple [a, b] k2 pt2) X.env = pure (some [x, y]) := by rfl)
    (hs : swapsWithSole [.Tuple [.Name x px, .Name y py] kt pt] (.Tuple [a, b] k2 pt2) pos.line X.env = pure false := by rfl) :
    PMS X Tb W (.Assign [.Tuple [.Name x px, .Name y py] kt pt] (.Tuple [a, b] k2 pt2) pos) (sPar2 i j ms) := ⟨fun B => PS.imp (ps_par hc hN hi hj hij hx hy ha.pa hw hs) fun D σ H q => by
  obtain ⟨ρ, F, e, h, s, re, p⟩ := rdS_bind (R := RVs X.K) q
  refine ⟨ρ, F, e, h, s, re, post_imp p fun x H1 ⟨ρ1, F1, e1, h1, v, a1, rv, q1⟩ => ?_⟩
  split at q1
  · cases rv with
    | cons r1 r2 => cases r2 with
      | cons r2 r3 =>
        cases r3
        exact ⟨_, _, rfl, q1 ρ1 F1 H1 _ ((a1.set i r1).set j r2)⟩
  · exact q1.elim⟩
theorem pms_par3 (i j l : Nat) {x y z : Str} {a b c : Expr} {ms : M (List PV)} {px py pz pt pos : Pos} {kt k2 pt2} (hc : X.calm = true) (hN : X.N.Nodup) (ha : PMA X Tb W [a, b, c] ms) (hij : i ≠ j := by decide) (hil : i ≠ l := by decide) (hjl : j ≠ l := by decide) (hi : X.N[i]? = some x := by rfl) (hj : X.N[j]? = some y := by rfl) (hl : X.N[l]? = some z := by rfl)
    (hx : X.env.scope.names.lookup x = some .local := by rfl) (hy : X.env.scope.names.lookup y = some .local := by rfl) (hz : X.env.scope.names.lookup z = some .local := by rfl)
    (hw : swappedStores [.Tuple [.Name x px, .Name y py, .Name z pz] kt pt] (.Tuple [a, b, c] k2 pt2) X.env = pure (some [x, y, z]) := by rfl)
    (hs : swapsWithSole [.Tuple [.Name x px, .Name y py, .Name z pz] kt pt] (.Tuple [a, b, c] k2 pt2) pos.line X.env = pure false := by rfl) :
    PMS X Tb W (.Assign [.Tuple [.Name x px, .Name y py, .Name z pz] kt pt] (.Tuple [a, b, c] k2 pt2) pos) (sPar3 i j l ms) := ⟨fun B => PS.imp (ps_par3 hc hN hi hj hl hij hil hjl hx hy hz ha.pa hw hs) fun D σ H q => by
  obtain ⟨ρ, F, e, h, s, re, p⟩ := rdS_bind (R := RVs X.K) q
  refine ⟨ρ, F, e, h, s, re, post_imp p fun x H1 ⟨ρ1, F1, e1, h1, v, a1, rv, q1⟩ => ?_⟩
  split at q1
  · cases rv with
    | cons r1 r2 => cases r2 with
      | cons r2 r3 => cases r3 with
        | cons r3 r4 =>
          cases r4
          exact ⟨_, _, _, rfl, q1 ρ1 F1 H1 _ (((a1.set i r1).set j r2).set l r3)⟩
  · exact q1.elim⟩
/-! ### list(range(n)) -/
def fListRng : PV → Hm → Res PV := fun x h => match x with
  | .int n => if -(2 ^ 62) ≤ n ∧ n ≤ 16777216 then .ok (.lst (rngRow 0 1 n.toNat)) h else .stuck
  | _ => .stuck
theorem rvs_rg {K : PySem.W.Frag} {ρ : List Addr} {F : Hp} (n : Int) : RVs K ρ F (rngRow 0 1 n.toNat) (rgV 0 n) := by
  unfold rngRow rgV
  rw [Int.sub_zero]
  have key : ∀ (l : List Nat), RVs K ρ F (l.map fun (k : Nat) => PV.int (0 + (k : Int) * 1)) (l.map fun i => V.int (0 + (i : Nat))) := fun l => by
    induction l with
    | nil => exact .nil
    | cons a t ih =>
      refine .cons ?_ ih
      show RV K ρ F (.int (0 + (a : Int) * 1)) (.int (0 + (a : Int)))
      rw [Int.mul_one]
      exact .int _
  exact key _
theorem pm_listRng {a : Expr} {ma : M PV} {p p2 pos pos2 : Pos} (hc : X.calm = true) (hg : Gl X "list") (hm : X.mg "list" = none) (hg2 : Gl X "range") (hm2 : X.mg "range" = none) (ha : PM X Tb W a ma) (na : starEach [a] X.env = (false, eval a X.env) :: starEach [] X.env := by rfl)
    (na2 : starEach [.Call (.Name "range" p2) [a] [] pos2] X.env = (false, eval (.Call (.Name "range" p2) [a] [] pos2) X.env) :: starEach [] X.env := by rfl) : PM X Tb W (.Call (.Name "list" p) [.Call (.Name "range" p2) [a] [] pos2] [] pos) (mUn1 fListRng ma) :=
  ⟨PE.imp (pe_listRg hc hg hm (prg_1 hg2 hm2 ha.pe na) na2) fun σ H Q q => by
    obtain ⟨ρ, F, e, h, s, re, p⟩ := rd_bind (R := RV X.K) (k := fun x => fun e h => fListRng x h) q
    refine ⟨ρ, F, e, h, s, re, post_imp p fun v H1 ⟨ρ1, F1, e1, h1, x, s1, re1, rx, p1⟩ => ?_⟩
    unfold fListRng at p1
    split at p1
    · rename_i n
      cases rx
      split at p1
      · rename_i c
        refine ⟨n, rfl, ⟨by decide, by decide, c.1, by omega, by omega⟩, fun t ht => ?_⟩
        obtain ⟨s2, x2⟩ := s1.laid (o := .lst (rgV 0 n)) ht (fun ps z => by cases z)
        exact p1 _ _ _ _ x2 s2 (.lst (.inl (.inl upd_same)) (x2.rvs (rvs_rg n)))
      · exact p1.elim
    · exact p1.elim⟩
end
end PM
end
section
set_option Elab.async false
set_option linter.all false
set_option maxRecDepth 100000
set_option autoImplicit false
set_option maxHeartbeats 4000000
namespace PM
open PySem PySem.Spec PyProof.Rows L2

/-! ### lambdas without parameters -/
/-- a lambda's text -/
structure LamR where
  params : Arguments
  body : Expr
  scope : Scope
def LamO (X : Cx) (L : LamR) (c' f : Addr) : HO := .ext fun h => ∃ pm ctv : Value, h.get? f = some (PySem.W.kla_obj "<lambda>" (X.env.qual ++ "<lambda>") L.params L.body L.scope (cloFrom X.env.cells L.scope.names []) pm c' ctv)
theorem lamO_tbl {X : Cx} {L : LamR} {c' f : Addr} : notTbl (LamO X L c' f) := fun ps z => by
  unfold LamO at z
  cases z
theorem lamO_lst {X : Cx} {L : LamR} {c' f : Addr} {xs : List V} : LamO X L c' f ≠ .lst xs := fun z => by
  unfold LamO at z
  cases z
theorem codeO_lst {c : Addr} {q : Str} {xs : List V} : LamX.CodeO c q ≠ .lst xs := fun z => by
  unfold LamX.CodeO at z
  cases z
section
variable {X : Cx} {pins : List (Addr × Obj)} {σ : L2.St} {H : Hp} {s : Shared}
/-- the lambda is made, and tracked -/
theorem lam_makeT {T : List (Addr × Str)} {c P : Addr} {L : LamR} {pos : Pos} {E : Value → Shared → Prop} {Q : Value → Shared → Prop} (I : Inv X pins σ H s) (TB : LamX.TabB X.base X.mg c P) (hcode : X.env.code = .ref c)
    (hm : (P, X.env.qual ++ "<lambda>") ∈ T) (hu : ∀ p ∈ T, p.1 = P → p.2 = X.env.qual ++ "<lambda>") (hT : LamX.Tabs T H) (hdef : defaultsOf L.params X.env = ([], [])) (hfree : ∀ y ∈ L.scope.names, y.2 = .free → ∃ c, X.env.cells.lookup y.1 = some c)
    (h : ∀ (f c' : Addr) (H1 : Hp) (s' : Shared), (∀ b o, b ≠ P → H b = some o → H1 b = some o) → LamX.Tabs T H1 → H1 f = none → H1 c' = some (LamX.CodeO c' (X.env.qual ++ "<lambda>")) → Inv X pins σ (upd H1 f (LamO X L c' f)) s' → Q (.ref f) s') :
    wpAny (model X.prog X.w) X.A (eval (.Lambda L.params L.body L.scope pos) X.env) Q E s := by
  obtain ⟨ps, hP, ht, ha⟩ := hT _ hm
  refine PySem.W.kla_eval hdef ?_
  have bP : s.heap.BuiltinsAt X.mg P := TB.bm.keeps I.bk
  have hP' : s.heap.get? P = some { cls := .none, data := .fields ps } := I.hok P _ hP
  have okL : ∀ (h' : Heap) (f c' : Addr) (pm ctv : Value) (H1 : Hp), h'.get? f = some (PySem.W.kla_obj "<lambda>" (X.env.qual ++ "<lambda>") L.params L.body L.scope (cloFrom X.env.cells L.scope.names []) pm c' ctv) → ObjOk X.prog X.w H1 h' f (LamO X L c' f) := fun h' f c' pm ctv H1 e =>
    ⟨⟨pm, ctv, e⟩, ⟨_, e⟩, fun h1 h2 ⟨pm, ctv, e⟩ k => ⟨pm, ctv, k _ e⟩⟩
  cases hc : codeAmong pos ps.toList with
  | none =>
    refine PySem.W.kla_makeFunction (mg := X.mg) (c := c) (P := P) (ps := ps) (closure_ok hfree) I.ok.glob (I.mod.glob.keeps I.bk) hcode (TB.code.keeps I.bk) hP' ht hc TB.gP bP fun c' ctv h' tk hx hge hlt hrec htb => ?_
    obtain ⟨c2, oc, vs, t, e2, hoc, hd, hv⟩ := hrec
    cases e2
    have hsz : s.heap.objs.size ≤ h'.objs.size := Nat.le_trans hge (Nat.le_of_lt hlt)
    have nC : H c' = none := I.hok.fresh hge
    have I1 := LamX.inv_table (q := X.env.qual ++ "<lambda>") (t' := tk) (more := #[rawInt pos.line, rawInt pos.col, .ref c']) (h' := h') I hP
      (fun b o hb e => hx b o hb e) htb hge ⟨oc, vs, t, hoc, hd, hv⟩
    have hE : ∀ b o, b ≠ P → H b = some o → upd (upd H P (.tbl (ps ++ #[rawInt pos.line, rawInt pos.col, .ref c']))) c' (LamX.CodeO c' (X.env.qual ++ "<lambda>")) b = some o := fun b o n e => by
      rw [upd_ne (ne_of_none e nC), upd_ne n]
      exact e
    have hE2 : ∀ b o, H b = some o → (∀ ps, o ≠ .tbl ps) → upd (upd H P (.tbl (ps ++ #[rawInt pos.line, rawInt pos.col, .ref c']))) c' (LamX.CodeO c' (X.env.qual ++ "<lambda>")) b = some o := fun b o e n => hE b o (fun z => n ps (Option.some.inj (e.symm.trans (by rw [z]; exact hP)))) e
    have eL : (ps ++ #[rawInt pos.line, rawInt pos.col, .ref c']).toList = ps.toList ++ [rawInt pos.line, rawInt pos.col, .ref c'] := by simp
    have nF : upd (upd H P (.tbl (ps ++ #[rawInt pos.line, rawInt pos.col, .ref c']))) c' (LamX.CodeO c' (X.env.qual ++ "<lambda>")) h'.objs.size = none := by
      have n1 : h'.objs.size ≠ c' := Nat.ne_of_gt hlt
      have n2 : h'.objs.size ≠ P := Nat.ne_of_gt (Nat.lt_of_lt_of_le (Heap.lt_size hP') hsz)
      rw [upd_ne n1, upd_ne n2]
      exact I.hok.fresh hsz
    refine h h'.objs.size c' _ _ hE (fun p hp => ?_) nF upd_same (I1.laid (t' := tk) (h' := h'.push (PySem.W.kla_obj "<lambda>" (X.env.qual ++ "<lambda>") L.params L.body L.scope (cloFrom X.env.cells L.scope.names []) ((X.mg "__name__").getD .none) c' ctv)) (fun b o e => Heap.get?_push_of_some _ e) (Nat.le_refl _) (okL _ _ _ _ _ _ (Heap.get?_push_size _ rfl)))
    by_cases hb : p.1 = P
    · rw [hu p hp hb, hb]
      refine ⟨_, by rw [upd_ne (ne_of_none hP nC), upd_same], by rw [eL]; exact PySem.TriplesOk_snoc _ _ _ _ ht, fun p' cv hcv => ?_⟩
      rw [eL] at hcv
      rcases LamX.among_app _ ht hcv with z | z
      · obtain ⟨c0, e1, e2⟩ := ha p' cv z
        exact ⟨c0, e1, hE2 _ _ e2 LamX.codeO_ne⟩
      · exact ⟨c', z, upd_same⟩
    · obtain ⟨ps', a1, a2, a3⟩ := hT p hp
      refine ⟨ps', by rw [upd_ne (ne_of_none a1 nC), upd_ne hb]; exact a1, a2, fun p' cv hcv => ?_⟩
      obtain ⟨c0, e1, e2⟩ := a3 p' cv hcv
      exact ⟨c0, e1, hE2 _ _ e2 LamX.codeO_ne⟩
  | some cv =>
    obtain ⟨c', e, hco⟩ := ha pos cv hc
    subst e
    refine PySem.W.kla_makeFunctionHit (mg := X.mg) (c := c) (P := P) (ps := ps) (closure_ok hfree) I.ok.glob (I.mod.glob.keeps I.bk) hcode (TB.code.keeps I.bk) hP' ht hc bP fun ctv h' tk hx hsz => ?_
    have I1 : Inv X pins σ H { s with heap := h', toks := tk } := I.kept fun b o e => hx b o e
    exact h h'.objs.size c' H _ (fun _ _ _ e => e) hT (I.hok.fresh hsz) hco (I1.laid (t' := tk) (fun b o e => Heap.get?_push_of_some _ e) (Nat.le_refl _) (okL _ _ _ _ _ _ (Heap.get?_push_size _ rfl)))
end
section
variable {K : PySem.W.Frag} {Tb : TBs} {ρ ρ' : List Addr} {F F' H H' : Hp} {h : Hm} {P : Addr}
/-- a table of lambdas has grown -/
theorem Sim.coded (s : Sim K Tb ρ F h H) {q : Str} (hP : (P, q) ∈ Tb.l) (k : ∀ b o, b ≠ P → H b = some o → H' b = some o) (t : LamX.Tabs Tb.l H') : Sim K Tb ρ F h H' ∧ Ext ρ F H ρ F H' := by
  obtain ⟨ps, e0, _⟩ := s.lm.lt _ hP
  have nP : ∀ b o, H b = some o → notTbl o → b ≠ P := fun b o e n z => by rw [z, e0] at e; cases e; exact n _ rfl
  refine ⟨⟨fun b u e => ?_, s.len, s.nd, s.off, fun i o e => ?_, fun P' hP' => ?_, s.tf, ⟨t, s.lm.lf, s.lm.dj⟩⟩, ⟨⟨[], by simp, by simp⟩, fun _ _ e => e, fun _ _ e => .inl e, fun p O e _ nt => k p O (nP _ _ e nt) e, fun p e => ?_⟩⟩
  · have n : b ≠ P := fun z => by rw [z, s.lm.lf _ hP] at e; cases e
    rcases s.le b u e with z | ⟨d, ob, z⟩
    · exact .inl (k _ _ n z)
    · exact .inr ⟨d, ob, k _ _ n z⟩
  · obtain ⟨p, O, e1, e2, r⟩ := s.ob i o e
    exact ⟨p, O, e1, k _ _ (nP _ _ e2 (fun ps z => by cases r; cases z)) e2, r⟩
  · obtain ⟨ps', e, q'⟩ := s.tb P' hP'
    exact ⟨ps', k _ _ (fun z => s.lm.dj _ hP (by rw [← z]; exact hP')) e, q'⟩
  · by_cases z : p = P
    · obtain ⟨ps', e', _⟩ := t _ hP
      rw [z, show H' P = _ from e']; simp
    · cases y : H p with
      | none => exact absurd y e
      | some o => rw [k p o z y]; simp
/-- the lambda L stands at f -/
def LamAt (X : Cx) (F H : Hp) (L : LamR) (f : Addr) : Prop := ∃ c', F f = some (LamO X L c' f) ∧ H c' = some (LamX.CodeO c' (X.env.qual ++ "<lambda>"))
theorem LamAt.ext {X : Cx} {L : LamR} {f : Addr} (a : LamAt X F H L f) (s : Sim K Tb ρ F h H) (x : Ext ρ F H ρ' F' H') : LamAt X F' H' L f := by
  obtain ⟨c', h1, h2⟩ := a
  refine ⟨c', x.up _ _ h1, x.keep _ _ h2 (fun z => ?_) (fun ps z => LamX.codeO_ne ps z)⟩
  obtain ⟨i, hi, e⟩ := List.getElem_of_mem z
  have hl : i < h.length := by rw [← s.len]; exact hi
  obtain ⟨p', O, e1, e2, r⟩ := s.ob i h[i] (by simp [hl])
  rw [List.getElem?_eq_getElem hi, e] at e1
  cases e1
  rw [h2] at e2
  cases e2
  generalize h[i] = o at r
  cases r
inductive LamsAt (X : Cx) (F H : Hp) : List LamR → List Addr → Prop
  | nil : LamsAt X F H [] []
  | cons {L : LamR} {f : Addr} {Ls : List LamR} {fs : List Addr} : LamAt X F H L f → LamsAt X F H Ls fs → LamsAt X F H (L :: Ls) (f :: fs)
theorem LamsAt.ext {X : Cx} (s : Sim K Tb ρ F h H) (x : Ext ρ F H ρ' F' H') : ∀ {Ls : List LamR} {fs : List Addr}, LamsAt X F H Ls fs → LamsAt X F' H' Ls fs
  | _, _, .nil => .nil
  | _, _, .cons a t => .cons (a.ext s x) (LamsAt.ext s x t)
theorem LamsAt.app {X : Cx} : ∀ {Ls Ms : List LamR} {fs gs : List Addr}, LamsAt X F H Ls fs → LamsAt X F H Ms gs → LamsAt X F H (Ls ++ Ms) (fs ++ gs)
  | _, _, _, _, .nil, b => b
  | _, _, _, _, .cons a t, b => .cons a (LamsAt.app t b)
theorem LamsAt.len {X : Cx} : ∀ {Ls : List LamR} {fs : List Addr}, LamsAt X F H Ls fs → Ls.length = fs.length
  | _, _, .nil => rfl
  | _, _, .cons _ t => by simp [LamsAt.len t]
end
/-! readings -/
/-- from what stands, by an extension -/
def tFrom (K : PySem.W.Frag) (Tb : TBs) {β : Type} (R : Hp → Hp → β → Prop) : L2.St → Hp → (β → Hp → Prop) → Prop := fun _ H Q => ∃ ρ F h, Sim K Tb ρ F h H ∧ ∀ F' H' x, Ext ρ F H ρ F' H' → Sim K Tb ρ F' h H' → R F' H' x → Q x H'
section
variable {X : Cx} {Tb : TBs} {P c : Addr}
theorem pe_lam1 {L : LamR} {pos : Pos} (TB : LamX.TabB X.base X.mg c P) (hcode : X.env.code = .ref c) (hm : (P, X.env.qual ++ "<lambda>") ∈ Tb.l) (hu : ∀ p ∈ Tb.l, p.1 = P → p.2 = X.env.qual ++ "<lambda>") (hdef : defaultsOf L.params X.env = ([], [])) (S : LamX.LamS X.env.scope L.scope) :
    PE X (.Lambda L.params L.body L.scope pos) (tFrom X.K Tb fun F H v => ∃ f, v = V.ref f ∧ LamAt X F H L f) := by
  refine ⟨fun pins s σ H Q I q => ?_⟩
  obtain ⟨ρ, F, h, si, q⟩ := q
  refine lam_makeT I TB hcode hm hu si.lm.lt hdef (S.has I.ok) fun f c' H1 s' k t nf hc I1 => ?_
  obtain ⟨s1, x1⟩ := si.coded hm k t
  obtain ⟨s2, x2⟩ := s1.laid nf (o := LamO X L c' f) lamO_tbl
  refine ⟨.ref f, _, I1, rfl, q _ _ _ (x1.trans x2) s2 ⟨f, rfl, c', upd_same, ?_⟩⟩
  rw [upd_ne (fun z => by rw [z, nf] at hc; cases hc)]
  exact hc
theorem pa_lam0 : PA X [] (tFrom X.K Tb fun F H vs => ∃ fs : List Addr, vs = fs.map V.ref ∧ LamsAt X F H [] fs) := PA.imp pa_nil fun σ H Q q => by
  obtain ⟨ρ, F, h, s, q⟩ := q
  exact q F H [] Ext.refl s ⟨[], rfl, .nil⟩
theorem pa_lamC {L : LamR} {Ls : List LamR} {e : Expr} {es : List Expr} (h1 : PE X e (tFrom X.K Tb fun F H v => ∃ f, v = V.ref f ∧ LamAt X F H L f)) (h2 : PA X es (tFrom X.K Tb fun F H vs => ∃ fs : List Addr, vs = fs.map V.ref ∧ LamsAt X F H Ls fs))
    (hs : starEach (e :: es) X.env = (false, eval e X.env) :: starEach es X.env := by rfl) : PA X (e :: es) (tFrom X.K Tb fun F H vs => ∃ fs : List Addr, vs = fs.map V.ref ∧ LamsAt X F H (L :: Ls) fs) := PA.imp (pa_cons h1 h2 hs) fun σ H Q q => by
  obtain ⟨ρ, F, h, s, q⟩ := q
  refine ⟨ρ, F, h, s, fun F1 H1 v x1 s1 ⟨f, ev, l1⟩ => ⟨ρ, F1, h, s1, fun F2 H2 vs x2 s2 ⟨fs, evs, l2⟩ => ?_⟩⟩
  subst ev evs
  exact q F2 H2 _ (x1.trans x2) s2 ⟨f :: fs, rfl, .cons (l1.ext s1 x2) l2⟩
end
end PM
end
section
set_option Elab.async false
set_option linter.all false
set_option maxRecDepth 100000
set_option autoImplicit false
set_option maxHeartbeats 4000000
namespace PM
open PySem PySem.Spec PyProof.Rows L2

section
variable {K : PySem.W.Frag} {Tb : TBs} {B : Bs} {ρ : List Addr} {F H : Hp} {e : En} {h : Hm} {σ : L2.St}
/-- the name i holds what the values don't know -/
theorem RE.hide (r : RE K ρ F H e σ) (i : Nat) (x : Option V) : RE K ρ F H (e.set i .no) (σ.set i x) := by
  have key : ∀ (j : Nat) s, s ≠ .no → (e.set i .no)[j]? = some s → j ≠ i ∧ e[j]? = some s := fun j s hs q => by
    by_cases hj : j = i
    · subst hj
      have hl : j < e.length := by have := (List.getElem?_eq_some_iff.mp q).1; simpa using this
      rw [List.getElem?_set_self hl] at q
      exact absurd (Option.some.inj q).symm hs
    · rw [List.getElem?_set_ne (Ne.symm hj)] at q
      exact ⟨hj, q⟩
  refine ⟨by simp [r.len], fun j w q => ?_, fun j xs q => ?_, fun j k xs ys p n q1 q2 s1 => ?_⟩
  · obtain ⟨hj, q⟩ := key j _ (by simp) q
    rw [List.getElem?_set_ne (Ne.symm hj)]
    exact r.val j w q
  · obtain ⟨hj, q⟩ := key j _ (by simp) q
    rw [List.getElem?_set_ne (Ne.symm hj)]
    exact r.own j xs q
  · obtain ⟨hj, q1⟩ := key j _ (by simp) q1
    obtain ⟨hk, q2⟩ := key k _ (by simp) q2
    rw [List.getElem?_set_ne (Ne.symm hj)] at s1
    rw [List.getElem?_set_ne (Ne.symm hk)]
    exact r.dis j k xs ys p n q1 q2 s1
theorem At.hide (a : At K Tb B ρ F H e h σ) (i : Nat) (x : Option V) : At K Tb B ρ F H (e.set i .no) h (σ.set i x) := by
  refine ⟨a.ex, a.s, ⟨a.rb.re.hide i x, fun j xs p q s1 => ?_⟩, a.u⟩
  have hj : j ≠ i := fun z => by
    subst z
    have hl : j < e.length := by have := (List.getElem?_eq_some_iff.mp q).1; simpa using this
    rw [List.getElem?_set_self hl] at q
    cases q
  rw [List.getElem?_set_ne (Ne.symm hj)] at q s1
  exact a.rb.yg j xs p q s1
end
/-- the name i holds a list of lambdas -/
def LamL (X : Cx) (i : Nat) (Ls : List LamR) (σ : L2.St) (F H : Hp) : Prop := ∃ p fs, σ[i]? = some (some (V.ref p)) ∧ F p = some (.lst (fs.map V.ref)) ∧ LamsAt X F H Ls fs
def tFromL (X : Cx) (Tb : TBs) (i : Nat) (Ls : List LamR) {β : Type} (R : Hp → Hp → β → Prop) : L2.St → Hp → (β → Hp → Prop) → Prop := fun σ H Q => ∃ ρ F h, Sim X.K Tb ρ F h H ∧ LamL X i Ls σ F H ∧ ∀ F' H' x, Ext ρ F H ρ F' H' → Sim X.K Tb ρ F' h H' → R F' H' x → Q x H'
abbrev LamV (X : Cx) (Ls : List LamR) : Hp → Hp → V → Prop := fun F H v => ∃ p fs, v = V.ref p ∧ F p = some (.lst (fs.map V.ref)) ∧ LamsAt X F H Ls fs
section
variable {X : Cx} {Tb : TBs} {es : List Expr} {pos : Pos} {Ls Ms : List LamR}
theorem pe_lamList (hl : Ls.length ≤ 1000000) (ha : PA X es (tFrom X.K Tb fun F H vs => ∃ fs : List Addr, vs = fs.map V.ref ∧ LamsAt X F H Ls fs)) : PE X (.List es pos) (tFrom X.K Tb (LamV X Ls)) := PE.imp (pe_lst ha) fun σ H Q q => by
  obtain ⟨ρ, F, h, s, q⟩ := q
  refine ⟨ρ, F, h, s, fun F1 H1 vs x1 s1 ⟨fs, evs, l⟩ => ?_⟩
  subst evs
  refine ⟨by rw [List.length_map, ← l.len]; exact mil hl, fun p hp => ?_⟩
  obtain ⟨s2, x2⟩ := s1.laid hp (o := .lst (fs.map V.ref)) (fun ps z => by cases z)
  exact q _ _ _ (x1.trans x2) s2 ⟨p, fs, rfl, upd_same, l.ext s1 x2⟩
theorem pe_lamAdd (i : Nat) {x : Str} {p1 p2 : Pos} (hl : Ms.length + Ls.length ≤ 1000000) (ha : PA X es (tFrom X.K Tb fun F H vs => ∃ fs : List Addr, vs = fs.map V.ref ∧ LamsAt X F H Ls fs)) (hN : X.N[i]? = some x := by rfl) (hv : Vis X.env.scope x := by first | exact Or.inl rfl | exact Or.inr (Or.inl rfl) | exact Or.inr (Or.inr rfl))
    (hd : (x == ("__debug__" : Str)) = false := by decide) (hcd : (x == ("__classdict__" : Str)) = false := by decide) : PE X (.BinOp (.Name x p1) .Add (.List es p2) pos) (tFromL X Tb i Ms (LamV X (Ms ++ Ls))) :=
  PE.imp (pe_op op_catL (pe_var hN hv hd hcd) (pe_lamList (by omega) ha)) fun σ H Q q => by
    obtain ⟨ρ, F, h, s, ⟨p0, fs0, e0, f0, l0⟩, q⟩ := q
    refine ⟨_, e0, ρ, F, h, s, fun F1 H1 v x1 s1 ⟨p, fs, ev, hp, l⟩ => ?_⟩
    subst ev
    have h0 := s1.le.at (x1.up _ _ f0) rfl
    have h1 := s1.le.at hp rfl
    refine ⟨p0, p, fs0.map V.ref, fs.map V.ref, rfl, rfl, .inl (.inl h0), .inl (.inl h1), ?_, fun t ht => ?_⟩
    · rw [List.length_map, List.length_map, ← l0.len, ← l.len]; exact mil hl
    · obtain ⟨s2, x2⟩ := s1.laid ht (o := .lst (fs0.map V.ref ++ fs.map V.ref)) (fun ps z => by cases z)
      exact q _ _ _ (x1.trans x2) s2 ⟨t, fs0 ++ fs, rfl, by rw [List.map_append]; exact upd_same, ((l0.ext s x1).app l).ext s1 x2⟩
variable {W : WX} {B : Bs} {i0 : Nat} {rest body orelse : List Stmt} {m sa sb sr : Sm} {mt mu : M Bool} {a b c : Expr} {xs : List Expr}
def rdSL (X : Cx) (Tb : TBs) (W : WX) (B : Bs) (i : Nat) (Ls : List LamR) (m : Sm) : TS := fun D σ H => ∃ ρ F e h, At X.K Tb B ρ F H e h σ ∧ LamL X i Ls σ F H ∧ postS X.K Tb W B (m e h) D
def rTL (X : Cx) (Tb : TBs) (W : WX) (i : Nat) (Ls : List LamR) (m : M Bool) : TT := fun σ H Q => ∃ ρ F e h, Sim X.K Tb ρ F h H ∧ RE X.K ρ F H e σ ∧ LamL X i Ls σ F H ∧ post X.K Tb W (fun _ _ (a b : Bool) => a = b) ρ F H σ (m e h) Q
def sHide (i : Nat) (m : Sm) : Sm := fun e h => if i < e.length then m (e.set i .no) h else .stuck
structure PMBL (X : Cx) (Tb : TBs) (W : WX) (i : Nat) (Ls : List LamR) (st : List Stmt) (m : Sm) : Prop where
  pb : ∀ B, PSs X st (rdSL X Tb W B i Ls m)
structure PMTL (X : Cx) (Tb : TBs) (W : WX) (i : Nat) (Ls : List LamR) (e : Expr) (m : M Bool) : Prop where
  pt : PT X e (rTL X Tb W i Ls m)
structure PMWL (X : Cx) (Tb : TBs) (W : WX) (i : Nat) (Ls : List LamR) (e : Expr) (m : M Bool) : Prop where
  pw : PW X e (rTL X Tb W i Ls m)
theorem set_at {σ : L2.St} {i : Nat} {v : V} {e : En} (hl : e.length = σ.length) (h : i < e.length) : (σ.set i (some v))[i]? = some (some v) := by
  rw [List.getElem?_set_self (by rw [← hl]; exact h)]
/-- bad = [lambda: .., ..] -/
theorem pmb_lams (i : Nat) {x : Str} {p1 p2 : Pos} (hl : Ls.length ≤ 1000000) (ha : PA X es (tFrom X.K Tb fun F H vs => ∃ fs : List Addr, vs = fs.map V.ref ∧ LamsAt X F H Ls fs)) (hN : X.N.Nodup) (hr : PMBL X Tb W i Ls rest m)
    (hi : X.N[i]? = some x := by rfl) (hx : Loc X.env.scope x := by first | exact Or.inl rfl | exact Or.inr rfl) (hs : swapsWith (.List es p2) (some (.Name x p1)) pos.line X.env = pure false := by rfl)
    (hf : X.fn x = true ∨ X.env.scope.names.lookup x = some .local := by first | exact .inl rfl | exact .inr rfl) : PMB X Tb W (.Assign [.Name x p1] (.List es p2) pos :: rest) (sHide i m) := ⟨fun B => PSs.imp (pss_cons (ps_set hN hi hx (pe_lamList hl ha) hs hf) (hr.pb B)) fun D σ H q => by
  obtain ⟨ρ, F, e, h, a, q⟩ := q
  refine ⟨ρ, F, h, a.s, fun F1 H1 v x1 s1 ⟨p, fs, ev, hp, l⟩ => ?_⟩
  subst ev
  unfold sHide at q
  split at q
  · rename_i hlt
    exact ⟨ρ, F1, _, h, (a.ext x1 s1).hide i _, ⟨p, fs, set_at a.rb.re.len hlt, hp, l⟩, q⟩
  · exact q.elim⟩
/-- bad = bad + [lambda: .., ..] -/
theorem pmbl_more (i : Nat) {x : Str} {p1 p2 p3 p4 : Pos} (hl : Ms.length + Ls.length ≤ 1000000) (ha : PA X es (tFrom X.K Tb fun F H vs => ∃ fs : List Addr, vs = fs.map V.ref ∧ LamsAt X F H Ls fs)) (hN : X.N.Nodup) (hr : PMBL X Tb W i (Ms ++ Ls) rest m)
    (hi : X.N[i]? = some x := by rfl) (hx : Loc X.env.scope x := by first | exact Or.inl rfl | exact Or.inr rfl) (hv : Vis X.env.scope x := by first | exact Or.inl rfl | exact Or.inr (Or.inl rfl) | exact Or.inr (Or.inr rfl)) (hd : (x == ("__debug__" : Str)) = false := by decide) (hcd : (x == ("__classdict__" : Str)) = false := by decide)
    (hs : swapsWith (.BinOp (.Name x p3) .Add (.List es p2) p4) (some (.Name x p1)) pos.line X.env = pure false := by rfl)
    (hf : X.fn x = true ∨ X.env.scope.names.lookup x = some .local := by first | exact .inl rfl | exact .inr rfl) : PMBL X Tb W i Ms (.Assign [.Name x p1] (.BinOp (.Name x p3) .Add (.List es p2) p4) pos :: rest) (sHide i m) := ⟨fun B => PSs.imp (pss_cons (ps_set hN hi hx (pe_lamAdd i hl ha hi hv hd hcd) hs hf) (hr.pb B)) fun D σ H q => by
  obtain ⟨ρ, F, e, h, a, l0, q⟩ := q
  refine ⟨ρ, F, h, a.s, l0, fun F1 H1 v x1 s1 ⟨p, fs, ev, hp, l⟩ => ?_⟩
  subst ev
  unfold sHide at q
  split at q
  · rename_i hlt
    exact ⟨ρ, F1, _, h, (a.ext x1 s1).hide i _, ⟨p, fs, set_at a.rb.re.len hlt, hp, l⟩, q⟩
  · exact q.elim⟩
theorem LamL.ext {K : PySem.W.Frag} {ρ ρ' : List Addr} {F F' H H' : Hp} {h : Hm} {σ : L2.St} {i : Nat} (s : Sim K Tb ρ F h H) (x : Ext ρ F H ρ' F' H') (l : LamL X i Ls σ F H) : LamL X i Ls σ F' H' := by
  obtain ⟨p, fs, h1, h2, h3⟩ := l
  exact ⟨p, fs, h1, x.up _ _ h2, h3.ext s x⟩
/-- the test, then the rest, without the lambdas -/
theorem pmwl_or {pos : Pos} (ha : PMTL X Tb W i0 Ls a mt) (hb : PMW X Tb W (.BoolOp .Or (b :: xs) pos) mu) : PMWL X Tb W i0 Ls (.BoolOp .Or (a :: b :: xs) pos) (mOr mt mu) := ⟨PW.imp (pw_or ha.pt hb.pw) fun σ H Q q => by
  obtain ⟨ρ, F, e, h, s, re, l, p⟩ := q
  refine ⟨ρ, F, e, h, s, re, l, post_imp (post_bind (R := fun _ _ (a b : Bool) => a = b) p) fun v H1 t => ?_⟩
  obtain ⟨ρ1, F1, h1, x, ex, s1, rx, p1⟩ := t.ex
  subst rx
  cases x with
  | false => exact ⟨ρ1, F1, e, h1, s1, re.ext ex, p1⟩
  | true => exact post_ret p1 s1 rfl⟩
theorem pmtl_w (h : PMWL X Tb W i0 Ls a mt) : PMTL X Tb W i0 Ls a mt := ⟨h.pw.pt⟩
theorem pmbl_if {pos : Pos} (hc : PMTL X Tb W i0 Ls c mt) (ha : PMB X Tb W body sa) (hb : PMB X Tb W orelse sb) (hr : PMB X Tb W rest sr) : PMBL X Tb W i0 Ls (.If c body orelse pos :: rest) (sSeq (sIf mt sa sb) sr) := ⟨fun B => PSs.imp (pss_cons (ps_if hc.pt (ha.pb B) (hb.pb B)) (hr.pb B)) fun D σ H q => by
  obtain ⟨ρ, F, e, h, a, l, q⟩ := q
  refine ⟨ρ, F, e, h, a.s, a.rb.re, l, ?_⟩
  have key : ∀ (f : Fl), postS X.K Tb W B (match f with | .nx e1 h1 => sr e1 h1 | r => r) D → postS X.K Tb W B f { D with nx := rdS X.K Tb W B sr D } := fun f p => by
    cases f with
    | nx e1 h1 => exact fun ρ1 F1 H1 σ1 a1 => ⟨ρ1, F1, e1, h1, a1, p⟩
    | _ => exact p
  have q2 := key _ q
  unfold sIf bindS at q2
  cases r : mt e h with
  | ok v h1 =>
    rw [r] at q2
    intro ρ1 F1 H1 x ex s1 rv
    subst rv
    cases v with
    | true => exact ⟨ρ1, F1, e, h1, a.ext ex s1, q2⟩
    | false => exact ⟨ρ1, F1, e, h1, a.ext ex s1, q2⟩
  | exc c h1 =>
    rw [r] at q2
    exact fun ρ1 F1 H1 ex s1 => q2 ρ1 F1 H1 σ (a.ext ex s1)
  | stuck => rw [r] at q2; exact q2⟩
end
end PM
end
section
set_option Elab.async false
set_option linter.all false
set_option maxRecDepth 100000
set_option autoImplicit false
set_option maxHeartbeats 4000000
namespace PM
open PySem PySem.Spec PyProof.Rows L2 LamX

section
variable {X : Cx} {pins : List (Addr × Obj)} {σ : L2.St} {H : Hp} {s : Shared}
theorem LamO_at {X : Cx} {P : Program} {w : World} {L : LamR} {f c' : Addr} {H : Hp} {h : Heap} (hok : HOk P w H h) (e : H f = some (LamO X L c' f)) : ∃ pm ctv : Value, h.get? f = some (PySem.W.kla_obj "<lambda>" (X.env.qual ++ "<lambda>") L.params L.body L.scope (cloFrom X.env.cells L.scope.names []) pm c' ctv) := (hok f _ e).1
/-- what(), in the def that got the lambda -/
theorem pe_actT {CXg : CXT} {Eg : XK} {Ng : List Str} {qg : Str} {sg : Scope} {g f : Addr} {cdg : Value} {L : LamR} {k i : Nat} {a : Str} {pn : List (Addr × Obj)} {xe : Value → Shared → Prop} {W : WX} {E : XK} {tb : TE} {p1 p2 : Pos}
    (I : Inv X pins σ H s) (S : LamS X.env.scope L.scope)
    (hbind : ∀ (q : Str) (cl : List (Str × Addr)) (pm cv ctv : Value), bindArgs (PySem.W.kla_fn "<lambda>" q L.params L.body L.scope cl pm cv ctv) ⟨[], []⟩ = pure [])
    (tk : Takes ((cxOf CXg X.prog X.w X.K X.mg X.base Ng qg sg g cdg X.A X.stack s H Eg).tr pn xe) W) (hW : ∀ cls d σ' H', E cls d H' → W cls d σ' H') (hr : Room (k + 1) (X.A.deeper (envOfC qg sg s.heap.objs.size g cdg)))
    (hbody : ∀ (A : Around) (outer : List Env) (s : Shared) (H : Hp) (c' : Addr), Room k (A.deeper (lamEnv X L.scope s.heap.objs.size f c')) → PE (lamCx X A outer s H E L.scope f c') L.body tb)
    (hN : Ng[i]? = some a) (hv : Vis sg a) (hd : (a == ("__debug__" : Str)) = false := by decide) (hcd : (a == ("__classdict__" : Str)) = false := by decide) :
    PE ((cxOf CXg X.prog X.w X.K X.mg X.base Ng qg sg g cdg X.A X.stack s H Eg).tr pn xe) (.Call (.Name a p1) [] [] p2)
      (fun σZ HZ Q => σZ[i]? = some (some (.ref f)) ∧ (∃ c', HZ f = some (LamO X L c' f) ∧ HZ c' = some (CodeO c' (X.env.qual ++ "<lambda>"))) ∧ tb σ HZ Q) := by
  refine ⟨fun pinsZ sZ σZ HZ Q IZ h => ?_⟩
  obtain ⟨hs, ⟨c', hf, hc⟩, ht⟩ := h
  refine wpAny_Call_Name_kw (thn ((pe_var (pos := p1) (i := i) hN hv hd hcd).run pinsZ sZ σZ HZ (fun v H1 => v = .ref f ∧ H1 = HZ) IZ ⟨.ref f, hs, rfl, rfl⟩) fun u s1 ⟨v, H1, I1, r1, q1⟩ => ?_)
  obtain ⟨ev, eH⟩ := q1
  subst ev
  rw [eH] at I1
  obtain rfl : u = Value.ref f := r1
  obtain ⟨pm, ctv, of1⟩ := LamO_at I1.hok hf
  refine PySem.W.callWith_F0 ⟨_, _, _, _, of1⟩ ?_
  have un : Un (frs X.stack) [] H HZ s.heap s1.heap := I1.base
  obtain ⟨⟨oc, vs, t, hoc, hdc, hvc⟩, _, _⟩ := I1.hok c' _ hc
  have rc : codeAny (model X.prog X.w) (X.A.deeper (envOfC qg sg s.heap.objs.size g cdg)) (.call (.ref f) ⟨[], []⟩) (CR (L2.CX X.prog X.w) (envOfC qg sg s.heap.objs.size g cdg :: X.stack) X.prog X.w HZ s1 Q E) s1 := by
    refine PySem.W.kla_callFunE hr.depth of1 rfl S.co S.gen rfl ⟨c', oc, vs, t, rfl, hoc, hdc, hvc⟩ ?_
    rw [hbind]
    refine wpAny_pure (wpAny_newFunctionEnv (fun y hy => (S.own y hy).2) (fun y hy => absurd hy (by simp)) (fun h₁ hns hsb => ⟨I1.nolimit.fresh _ hsb, ?_⟩) S.kind)
    show codeAny _ _ (.expr L.body (lamEnv X L.scope s1.heap.objs.size f c')) _ _
    have kp : ∀ b o, s1.heap.get? b = some o → h₁.get? b = some o := fun b o e => hsb.extBut b o (Nat.ne_of_lt (Heap.lt_size e)) (Heap.get?_push_of_some _ e)
    have J : Inv (lamCx X (X.A.deeper (envOfC qg sg s.heap.objs.size g cdg)) (envOfC qg sg s.heap.objs.size g cdg :: X.stack) s1 HZ E L.scope f c') [] σ HZ { s1 with heap := h₁, toks := s1.toks + ([] : List (Str × Value)).length } :=
      lam_start2 I S I1.env0 hr.hd un hns kp
    refine PySem.W.kla_codeExpr (wpAny_mono ((hbody _ _ s1 HZ c' (hr.deeper _)).run [] _ _ HZ Q J ht) (fun v s' hq => ?_) fun e s' hq => hq)
    obtain ⟨w', H', J', rv, q⟩ := hq
    exact ⟨w', H', J'.os, J'.bare, J'.base, J'.hok, rv, q⟩
  have hx : Passes (L2.CX X.prog X.w) ((cxOf CXg X.prog X.w X.K X.mg X.base Ng qg sg g cdg X.A X.stack s H Eg).tr pn xe) E := passes_call tk hW
  refine wpAny_call (codeAny_mono rc fun r s' hq => ?_)
  cases r with
  | error e => exact hx pinsZ σZ HZ s1 e s' I1 hq
  | ok fl =>
    cases fl with
    | ret u => exact I1.after hq
    | next => exact False.elim hq
    | brk => exact False.elim hq
    | cont => exact False.elim hq
end
/-! ### told: try: return what() / except X: return 'X' -/
def told (catch_ : Str → Option Bool) (ret : Str) (m : M PV) : M PV := fun e h => match m e h with
  | .exc c h1 => match catch_ c with
    | some true => .ok (.str ret) h1
    | _ => .stuck
  | r => r
/-- a lambda's body is m -/
structure LamB (X : Cx) (Tb : TBs) (k : Nat) (L : LamR) (m : M PV) : Prop where
  sc : LamS X.env.scope L.scope
  bind : ∀ (q : Str) (cl : List (Str × Addr)) (pm cv ctv : Value), bindArgs (PySem.W.kla_fn "<lambda>" q L.params L.body L.scope cl pm cv ctv) ⟨[], []⟩ = pure []
  body : ∀ (E : XK) (A : Around) (outer : List Env) (s : Shared) (H : Hp) (f c' : Addr), Room k (A.deeper (lamEnv X L.scope s.heap.objs.size f c')) → TakesL (lamCx X A outer s H E L.scope f c') (lamCx X A outer s H E L.scope f c').env.locals (WF E) → PM (lamCx X A outer s H E L.scope f c') Tb (WF E) L.body m
/-- what is known of the def _law_told -/
structure ToldD (X : Cx) (x a e ret : Str) (Ng : List Str) (catch_ : Str → Option Bool) : Prop where
  ex : ∃ (pg : Arguments) (bg : List Stmt) (sg : Scope) (dV kV doc pm cdv ct oc : Value) (an od : Option Addr) (osl : Array (Option Value)) (j : Nat) (p1 p2 p3 p4 p5 p6 p7 p8 : Pos),
    X.K.lookup (He.ga X.K x) = some ⟨oc, od, .func (PySem.W.fnOf x x pg bg sg dV kV doc pm an cdv ct), osl⟩ ∧ PySem.W.codeIn X.K cdv x = true ∧ L2.Binds X.K (PySem.W.fnOf x x pg bg sg dV kV doc pm an cdv ct) [a] [] ∧ FnScope Ng [a] sg ∧ Vis sg a ∧ sg.names.lookup e = some .globalImplicit ∧
    bg = [.Try [.Return (some (.Call (.Name a p1) [] [] p2)) p3] [.ExceptHandler (some (.Name e p4)) none [.Return (some (.Constant (.str ret) j p5)) p6] p7] [] [] p8]
  kp : PySem.W.keepIn X.K (.ref (He.ga X.K x)) = true
  gl : X.mg x = some (.ref (He.ga X.K x))
  me : X.mg e = some (.ref (He.ga X.K e))
  n0 : Ng[0]? = some a
  hx : ∀ c b, catch_ c = some b → PySem.W.exmOne X.K (.ref (He.ga X.K c)) (.ref (He.ga X.K e)) = some b
  d1 : (x == ("__debug__" : Str)) = false
  d2 : (a == ("__debug__" : Str)) = false
  d3 : (a == ("__classdict__" : Str)) = false
  d4 : (e == ("__debug__" : Str)) = false
theorem told_post {K : PySem.W.Frag} {Tb : TBs} {W : WX} {ρ : List Addr} {F H : Hp} {σ : L2.St} {catch_ : Str → Option Bool} {ret : Str} {m : M PV} {e : En} {h : Hm} {Q : VK} (p : post K Tb W (RV K) ρ F H σ (told catch_ ret m e h) Q) :
    post K Tb (fun cls _ _ H' => ∃ c, cls = .ref (He.ga K c) ∧ catch_ c = some true ∧ Q (.str ret) H') (RV K) ρ F H σ (m e h) Q := by
  unfold told at p
  cases hm : m e h with
  | ok v h1 => rw [hm] at p; exact p
  | stuck => rw [hm] at p; exact p
  | exc c h1 =>
    rw [hm] at p
    dsimp only at p
    split at p
    · rename_i hc
      exact fun ρ' F' H' x s => ⟨c, rfl, hc, p ρ' F' H' _ x s (.str _)⟩
    · exact p.elim
/-- told(f), f a name of a block of X that holds a lambda of X -/
theorem pe_told {X : Cx} {Tb : TBs} {x a ee ret : Str} {Ng : List Str} {catch_ : Str → Option Bool} {k jf : Nat} {pinsX : List (Addr × Obj)} {σX : L2.St} {fx : Str} {p pf pos : Pos} {s0 : Shared} {H0 : Hp} {scope : Scope} {cenv : Env} {fp : List Addr} {xe : Value → Shared → Prop} (T : ToldD X x a ee ret Ng catch_)
    (back : ∀ (σ' : L2.St) (H' : Hp) (sI : Shared) (pins' : List (Addr × Obj)), Inv (blkx X s0 H0 scope cenv fp xe) pins' σ' H' sI → Inv X pinsX σX H' sI) (hg : Gl (blkx X s0 H0 scope cenv fp xe) x) (hr : Room (k + 2) X.A) (hN : X.N[jf]? = some fx) (hv : Vis cenv.scope fx) (hd : (fx == ("__debug__" : Str)) = false) (hcd : (fx == ("__classdict__" : Str)) = false)
    (he : starEach [.Name fx pf] cenv = (false, eval (.Name fx pf) cenv) :: starEach [] cenv) :
    PE (blkx X s0 H0 scope cenv fp xe) (.Call (.Name x p) [.Name fx pf] [] pos) (fun σY H Q => ∃ fa ρ F e h L m W, σY[jf]? = some (some (V.ref fa)) ∧ Sim X.K Tb ρ F h H ∧ RE X.K ρ F H e σX ∧ LamAt X F H L fa ∧ LamB X Tb k L m ∧ post X.K Tb W (RV X.K) ρ F H σX (told catch_ ret m e h) Q) := by
  refine ⟨fun pins s σ H Q I h => ?_⟩
  obtain ⟨fa, ρ, F, e, hh, L, m, W, hs, si, re, la, lb, q⟩ := h
  obtain ⟨pg, bg, sg, dV, kV, doc, pm, cdv, ct, oc, an, od, osl, j, p1, p2, p3, p4, p5, p6, p7, p8, lk, hcg, hb, Sg, hva, hge, ebg⟩ := T.ex
  refine wpAny_Call_Name_kw (ld_glob I hg T.gl ?_ T.d1)
  refine PySem.W.callWith_K (h₀ := X.base) I.ok.mod.kin T.kp ?_ (by rfl) (by rfl)
  rw [he]
  show wpAny _ _ (spliced ((false, eval (.Name fx pf) cenv) :: backTo pos (starEach [] cenv))) _ _ s
  refine Calls.spliced_cons (thn ((pe_var (X := blkx X s0 H0 scope cenv fp xe) (pos := pf) (i := jf) hN hv hd hcd).run pins s σ H (fun v H1 => v = .ref fa ∧ H1 = H) I ⟨.ref fa, hs, rfl, rfl⟩) fun u s1 ⟨v, H1, I1, r1, q1⟩ => ?_)
  obtain ⟨ev, eH⟩ := q1
  subst ev
  rw [eH] at I1
  obtain rfl : u = Value.ref fa := r1
  refine Calls.spliced_nil ⟨I1.kIn, ?_⟩
  obtain ⟨c', la1, la2⟩ := la
  have hf : H fa = some (LamO X L c' fa) := si.le.at la1 rfl
  have rc : codeAny (model X.prog X.w) X.A (.call (.ref (He.ga X.K x)) ⟨[.ref fa], []⟩) (CR C8.CX0 X.stack X.prog X.w H s1 Q C8.E0) s1 := by
    refine run_ofS (N := Ng) (ps := [a]) (us := [.ref fa]) (vs := [.ref fa]) lk hcg Sg hr I1.env0 (hb s1 [.ref fa] I1.kIn rfl) (.cons rfl .nil) rfl fun hr' => ?_
    subst ebg
    have hgl : Gl (cxOf C8.CX0 X.prog X.w X.K X.mg X.base Ng x sg (He.ga X.K x) cdv X.A X.stack s1 H C8.E0).nox ee := hge
    have q2 := told_post q
    refine ⟨fun D σ H => _, PSs.nox (pss_one (ps_try_only (X := (cxOf C8.CX0 X.prog X.w X.K X.mg X.base Ng x sg (He.ga X.K x) cdv X.A X.stack s1 H C8.E0).nox) (c := .ref (He.ga X.K ee))
      (tb := fun W D σ H => ∃ Ech : XK, (∀ cls d σ' H', Ech cls d H' → W cls d σ' H') ∧ σ[0]? = some (some (.ref fa)) ∧ (∃ c', H fa = some (LamO X L c' fa) ∧ H c' = some (CodeO c' (X.env.qual ++ "<lambda>"))) ∧ rE X.K Tb (WF Ech) m σX H D.rt)
      rfl rfl ⟨hgl, T.d4, .inl T.me⟩ LamX.takes0 (fun W pn xe tk _ => ?_) (fun a oe cls d pn _ _ => pss_one (ps_ret pe_str)))), ?_⟩
    · refine ⟨fun pins s' σ H' D I h' => ?_⟩
      obtain ⟨Ech, hW, h1, h2, h3⟩ := h'
      have hp := pe_actT (CXg := C8.CX0) (Eg := C8.E0) (Ng := Ng) (qg := x) (sg := sg) (g := He.ga X.K x) (cdg := cdv) (pn := pn) (xe := xe) (p1 := p1) (p2 := p2) (a := a) (i := 0) (E := Ech) (tb := rE X.K Tb (WF Ech) m) (back _ _ _ _ I1) lb.sc lb.bind tk hW hr' (fun A outer s H c' hr2 => (lb.body Ech A outer s H fa c' hr2 (takes_toL (takes_of rfl rfl rfl rfl))).pe) T.n0 hva T.d2 T.d3
      exact (pss_one (ps_ret (pos := p3) hp)).run pins s' σ H' D I ⟨h1, h2, h3⟩
    · refine ⟨fun cls _ H' => ∃ b, PySem.W.exmOne X.K cls (.ref (He.ga X.K ee)) = some b ∧ (b = true → Q (.str ret) H') ∧ (b = false → False), fun cls d σ' H' ⟨b, e1, e2, e3⟩ => ⟨b, e1, fun hb a _ => e2 hb, fun hb => e3 hb⟩, ?_, ⟨c', hf, la2⟩, ρ, F, e, hh, si, re, ?_⟩
      · show (L2.start Ng [V.ref fa])[0]? = _
        have n0 := T.n0
        cases Ng with
        | nil => simp at n0
        | cons b bs => rfl
      · revert q2
        cases m e hh with
        | ok v h1 => exact fun q2 => q2
        | stuck => exact fun q2 => q2
        | exc c h1 =>
          intro q2 ρ' F' H' x s
          obtain ⟨c2, e1, e2, e3⟩ := q2 ρ' F' H' x s
          exact ⟨true, by rw [e1]; exact T.hx c2 true e2, fun _ => e3, fun z => nomatch z⟩
  refine wpAny_call (codeAny_mono rc fun r s2 hq => ?_)
  cases r with
  | error e => exact (show False from hq).elim
  | ok fl =>
    cases fl with
    | ret u => exact I1.after hq
    | next => exact False.elim hq
    | brk => exact False.elim hq
    | cont => exact False.elim hq
end PM
end
section
set_option Elab.async false
set_option linter.all false
set_option maxRecDepth 100000
set_option autoImplicit false
set_option maxHeartbeats 4000000
namespace PM
open PySem PySem.Spec PyProof.Rows L2

section
variable {X : Cx} {W : WX} {L : Addr} {elt tg iter : Expr} {ifs : List Expr} {scope : Scope} {own : List (Str × Nat)} {pos pos' : Pos} {wi : TI} {g : TG} {tt : L2.St → TT} {te : L2.St → TE}
theorem lcXB {pins : List (Addr × Obj)} {s : Shared} {σ : L2.St} {H : Hp} {Q : VK} {use : Option (Value → Sem Unit)} {Qf : Value → Shared → Prop} (hc : X.calm = true) (hN : X.N.Nodup) (I : Inv X pins σ H s) (hi : PI X tg iter wi) (ok : BlkOk X.N X.env.scope scope own) (tk : TakesL X L W) (fm : Frm X L)
    (hg : AtBlk X scope fun Y => PG Y tg g) (ht : ∀ (σ : L2.St) (pins : List (Addr × Obj)), AtBlk X scope fun Y => (∀ (σ' : L2.St) (H' : Hp) (sI : Shared) (pins' : List (Addr × Obj)), Inv Y pins' σ' H' sI → Inv X pins σ H' sI) → TakesL Y L (WAt W σ) → PTs Y ifs (tt σ)) (he : ∀ (σ : L2.St) (pins : List (Addr × Obj)), AtBlk X scope fun Y => (∀ (σ' : L2.St) (H' : Hp) (sI : Shared) (pins' : List (Addr × Obj)), Inv Y pins' σ' H' sI → Inv X pins σ H' sI) → TakesL Y L (WAt W σ) → PE Y elt (te σ)) (hs : ∀ x, foldedSetIterable iter X.env x = pure x)
    (h : tLcX wi g tt te (own.map (·.2)) σ H Q)
    (hend : ∀ D C s' m H' ce, Inv X pins σ H' s' → Q (.ref D) H' → s'.heap.Ns C m → FpOk X pins H' C → ce.locals = C → compEnds (model X.prog X.w) X.A X.xe use Qf (.ref D) ce (.ok .next) s') :
    wpAny (model X.prog X.w) X.A (comprehension (.ListComp elt [⟨tg, iter, ifs, 0⟩] scope pos) scope X.env pos' (newList []) false (eval iter X.env) use) Qf X.xe s := by
  have caps : ∀ y ∈ scope.names, y.2 = .free → ∃ c, X.env.cells.lookup y.1 = some c := fun y hy e => (ok.free y hy e).elim (fun k => I.ok.has _ (.inl k)) fun k => I.ok.has _ (.inr k)
  refine comprehension_at (use := use) rfl hs (closure_ok caps) ok.kind (fun y hy e => (ok.uniq y hy).trans (by rw [e])) (thn (hi.run pins s σ H _ I h) fun _ s1 hx => thn hx fun _ s2 h2 => ?_)
  obtain ⟨it, fp, tn, J, H2, rfl, I2, T, st2, f2, q⟩ := h2
  refine wpAny_newObj_type (newEnv_comp ?_) (by show 0 ≤ sizeLine; decide)
  generalize hD : s2.heap.objs.size = D
  obtain ⟨V, ⟨m0, v0⟩, turn⟩ := q D (I2.hok.fresh (Nat.le_of_eq hD))
  generalize hz : ({ s2 with heap := s2.heap.push { cls := .type "list", data := .seq ([] : List Value).toArray } } : Shared) = z
  have hzh : z.heap = s2.heap.push { cls := .type "list", data := .seq ([] : List Value).toArray } := by rw [← hz]
  have zk : ∀ b o, s2.heap.get? b = some o → z.heap.get? b = some o := fun b o e => by rw [hzh]; exact Heap.get?_push_of_some _ e
  have Iz : Inv X pins σ (upd H2 D (.lst [])) z := by
    rw [← hz]
    exact I2.laid (t' := s2.toks) (fun b o e => Heap.get?_push_of_some _ e) (Nat.le_of_eq hD) ⟨Nat.zero_le _, [], 0, .nil, by rw [← hD]; exact Heap.get?_push_size _ rfl⟩
  have fz : ∀ b ∈ fp, FpOk X pins (upd H2 D (.lst [])) b ∧ b < z.heap.objs.size := fun b hb => by
    obtain ⟨o, e, _⟩ := T.obj _ _ st2 b hb
    have hlt := Heap.lt_size e
    refine ⟨⟨?_, (f2 b hb).2⟩, by rw [hzh, Heap.size_push]; exact Nat.lt_succ_of_lt hlt⟩
    rw [upd_ne (by rw [← hD]; exact Nat.ne_of_lt hlt)]
    exact (f2 b hb).1
  have stz : tn 0 z.heap := T.keep _ _ _ st2 fun b _ o e => zk b o e
  generalize hcl : cellsFrom (z.heap.objs.size + 1) scope.names (cloFrom X.env.cells scope.names []) = cl
  generalize hce : compEnvC scope cl z.heap.objs.size X.env = ce
  have ceL : ce.locals = z.heap.objs.size := by rw [← hce]; rfl
  have ceF : ce.frame = X.env.frame := by rw [← hce]; rfl
  generalize hG : upd H2 D (.lst []) = G at Iz fz v0
  generalize hxe : (notedBy (model X.prog X.w) X.A ce fun e s' => compEnds (model X.prog X.w) X.A X.xe use Qf (.ref D) ce (.error e) s') = xe
  have Ib0 := block_start Iz ok hN fz
  rw [hcl, hce] at Ib0
  have Ib : Inv (blkx X z G scope ce fp xe) [] (wipe σ (own.map (·.2))) G _ := Ib0.toTry xe
  have pg := hg z G z.heap.objs.size cl fp xe
  have pt := ht σ pins z G z.heap.objs.size cl fp xe
  have pe := he σ pins z G z.heap.objs.size cl fp xe
  rw [hce] at pg pt pe
  have back : ∀ (σ' : L2.St) (H' : Hp) (sI : Shared) (pins' : List (Addr × Obj)), Inv (blkx X z G scope ce fp xe) pins' σ' H' sI → Inv X pins σ H' sI := fun σ' H' sI pins' J1 =>
    Iz.call' (ch := fp) J1.os J1.base J1.hok J1.bare fun b hb => ⟨(fz b hb).1.2.2.2.1, (fz b hb).1.2.1, (fz b hb).1.2.2.2.2.1, (fz b hb).1.2.2.2.2.2⟩
  have tb : TakesL (blkx X z G scope ce fp xe) L (WAt W σ) := fun u s' x => by
    have q := blk_takes (X1 := blkx X z G scope ce fp xe) (cenv := ce) (use := use) (Qf := Qf) (acc := .ref D) (pins := pins) (σ := σ) (W1 := WAt W σ) tk fm ceF rfl rfl I.ok.frames rfl back (fun H' hn => by rw [ceL] at hn ⊢; exact Iz.fpOk (Nat.le_refl _) hn)
      (fun hm => by
        obtain ⟨_, o, e, _⟩ := Iz.stack.mem hm
        rw [ceL] at e
        exact absurd (Heap.lt_size e) (Nat.lt_irrefl _)) (fun _ _ _ _ w => w) u s' x
    show xe u s'
    rw [← hxe]
    cases use <;> exact q
  have pt := pt back tb
  have pe := pe back tb
  have nfp : ∀ b ∈ fp, G b = none := fun b hb => (fz b hb).1.1
  show codeAny _ _ (.compStart (.ListComp elt [⟨tg, iter, ifs, 0⟩] scope pos) 0 (.ref it) (.ref D) (compEnvC scope cl z.heap.objs.size X.env)) (compEnds (model X.prog X.w) X.A X.xe use Qf (.ref D) (compEnvC scope cl z.heap.objs.size X.env)) { z with heap := pushCells (z.heap.push { cls := .type "dict", data := .dict #[] }) scope.names }
  rw [hce]
  generalize hs4 : ({ z with heap := pushCells (z.heap.push { cls := .type "dict", data := .dict #[] }) scope.names } : Shared) = y at Ib ⊢
  have sty : tn 0 y.heap := T.keep _ _ _ stz fun b _ o e => by rw [← hs4]; exact pushCells_keeps _ _ _ _ (Heap.get?_push_of_some _ e)
  have stat : ∀ {σ' : L2.St} {H' : Hp} {s' : Shared}, Inv (blkx X z G scope ce fp xe) [] σ' H' s' → (∀ b ∈ fp, H' b = none) → ∀ b ∈ fp, FpOk (blkx X z G scope ce fp xe) [] H' b := fun J1 hn b hb =>
    ⟨hn b hb, (J1.ok.exf b hb).1, J1.ok.exfs b hb, .inl hb, fun x c e => (J1.ok.exf b hb).2 x c e, fun p hp => absurd (show p ∈ ([] : List (Addr × Obj)) ++ [] from hp) (by simp)⟩
  have loop : codeAny (model X.prog X.w) X.A (.compLoop (.ListComp elt [⟨tg, iter, ifs, 0⟩] scope pos) 0 (.ref it) (.ref D) ce) (compEnds (model X.prog X.w) X.A X.xe use Qf (.ref D) ce) y := by
    refine compLoop_any (fun n s' => ∃ i H', Inv (blkx X z G scope ce fp xe) [] (wipe σ (own.map (·.2))) H' s' ∧ tn i s'.heap ∧ (∀ b ∈ fp, H' b = none) ∧ V i n H') ?_ m0 ⟨0, G, Ib, sty, nfp, v0⟩
    rintro n y1 ⟨i, H5, I5, st5, n5, v5⟩
    rw [hxe]
    rcases turn i n H5 v5 with ⟨stop, qq⟩ | ⟨go, N, hNx, step⟩
    · refine thn (T.done (blkx X z G scope ce fp xe) rfl rfl rfl hc i [] y1 _ H5 xe I5 (stat I5 n5) st5 stop) fun r y2 ⟨hr, I6⟩ => ?_
      subst hr
      have nC : H5 z.heap.objs.size = none := by
        have q : H5 ce.locals = none := I6.free
        rw [ceL] at q
        exact q
      obtain ⟨m, hn, _⟩ := I6.loc
      have hn : y2.heap.Ns ce.locals m := hn
      rw [ceL] at hn
      exact hend D z.heap.objs.size y2 m H5 ce (back _ _ _ _ I6) qq hn (Iz.fpOk (Nat.le_refl _) nC) ceL
    · refine thn (T.item (blkx X z G scope ce fp xe) rfl rfl rfl hc i [] y1 _ H5 xe I5 (stat I5 n5) st5 go) fun r y2 ⟨u, hr, h6⟩ => ?_
      subst hr
      refine thn h6 fun _ y3 ⟨x, H7, I7, r7, yl, st7, n7⟩ => ?_
      have I7p := I7.pinned (stat I7 n7) (T.obj _ _ st7)
      refine thn (pg.run _ y3 _ H7 x u _ I7p r7 (step x H7 yl)) fun _ y4 ⟨σ8, H8, I8, hw, q8⟩ => ?_
      refine thn (pt.run _ y4 σ8 H8 _ I8 q8) fun b y5 ⟨H9, I9, q9⟩ => ?_
      have fin : ∀ {s' : Shared} {H' : Hp}, Inv (blkx X z G scope ce fp xe) ([] ++ pinsAt fp y3.heap) σ8 H' s' → N H' → ∃ m, m < n ∧ ∃ i H', Inv (blkx X z G scope ce fp xe) [] (wipe σ (own.map (·.2))) H' s' ∧ tn i s'.heap ∧ (∀ b ∈ fp, H' b = none) ∧ V i m H' := fun {s' H'} I' nx => by
        obtain ⟨m', hm, w'⟩ := hNx H' nx
        have pn : ∀ b ∈ fp, ∀ o, y3.heap.get? b = some o → s'.heap.get? b = some o ∧ H' b = none := fun b hb o e => by
          have q := I'.pin (b, o) (List.mem_append_right _ (List.mem_append_right _ (mem_pinsAt hb e)))
          exact ⟨q.1, q.2.1⟩
        refine ⟨m', hm, i + 1, H', (I'.unpinned (pins := [])).weak (by rw [← hw, wipe_length]) (fun j v e => ?_), T.keep _ _ _ st7 fun b hb o e => (pn b hb o e).1, fun b hb => ?_, w'⟩
        · rw [← hw] at e
          exact (wipe_some e).1
        · obtain ⟨o, e, _⟩ := T.obj _ _ st7 b hb
          exact (pn b hb o e).2
      cases b with
      | false =>
        simp only [Bool.false_eq_true, if_false] at q9 ⊢
        exact fin I9 q9
      | true =>
        simp only [if_true] at q9 ⊢
        refine thn (pe.run _ y5 σ8 H9 _ I9 q9) fun v y6 ⟨yv, H10, I10, r10, ys, hD10, hz10, nx⟩ => ?_
        exact app_ok (X := blkx X z G scope ce fp xe) I10 hD10 hz10 r10 fun y7 I11 => fin I11 nx
  exact codeAny_compStart_list loop (T.self X.A 0 _ _ _ sty loop)
/-- as a value -/
theorem pe_lcXB (hc : X.calm = true) (hN : X.N.Nodup) (hi : PI X tg iter wi) (ok : BlkOk X.N X.env.scope scope own) (tk : TakesL X L W) (fm : Frm X L)
    (hg : AtBlk X scope fun Y => PG Y tg g) (ht : ∀ (σ : L2.St) (pins : List (Addr × Obj)), AtBlk X scope fun Y => (∀ (σ' : L2.St) (H' : Hp) (sI : Shared) (pins' : List (Addr × Obj)), Inv Y pins' σ' H' sI → Inv X pins σ H' sI) → TakesL Y L (WAt W σ) → PTs Y ifs (tt σ)) (he : ∀ (σ : L2.St) (pins : List (Addr × Obj)), AtBlk X scope fun Y => (∀ (σ' : L2.St) (H' : Hp) (sI : Shared) (pins' : List (Addr × Obj)), Inv Y pins' σ' H' sI → Inv X pins σ H' sI) → TakesL Y L (WAt W σ) → PE Y elt (te σ)) (hs : ∀ x, foldedSetIterable iter X.env x = pure x := by intro _; rfl) :
    PE X (.ListComp elt [⟨tg, iter, ifs, 0⟩] scope pos) (tLcX wi g tt te (own.map (·.2))) := by
  refine ⟨fun pins s σ H Q I h => ?_⟩
  rw [eval_ListComp]
  refine lcXB hc hN I hi ok tk fm hg ht he hs h fun D C s' m H' ce I' q hn f eC => ⟨m, by rw [eC]; exact hn, fun h2 sb => ?_⟩
  rw [eC] at sb
  obtain ⟨f0, f1, f2, f3, f4, f5⟩ := f
  exact ⟨.ref D, H', I'.turned (t' := s'.toks) (fun b o hb e => (sb.2 b hb).trans e) f0 f1 f3 f4 f5, rfl, q⟩
end
/-! ### [k for k, f in enumerate(bad) if told(f) != 'X'] != [] -/
def mBadL (catch_ : Str → Option Bool) (ret : Str) (s : Str) : List (M PV) → M Bool
  | [] => fun _ h => .ok false h
  | m :: ms => fun e h => (told catch_ ret m e h).bind fun v h1 => match gEqv v (.str s) with
    | some b => (mBadL catch_ ret s ms e h1).bind fun r h2 => .ok (!b || r) h2
    | none => .stuck
inductive LamsB (X : Cx) (Tb : TBs) (k : Nat) : List LamR → List (M PV) → Prop
  | nil : LamsB X Tb k [] []
  | cons {L : LamR} {m : M PV} {Ls : List LamR} {ms : List (M PV)} : LamB X Tb k L m → LamsB X Tb k Ls ms → LamsB X Tb k (L :: Ls) (m :: ms)
theorem LamsB.len {X : Cx} {Tb : TBs} {k : Nat} : ∀ {Ls : List LamR} {ms : List (M PV)}, LamsB X Tb k Ls ms → Ls.length = ms.length
  | _, _, .nil => rfl
  | _, _, .cons _ t => by simp [LamsB.len t]
theorem LamsB.get {X : Cx} {Tb : TBs} {k : Nat} : ∀ {Ls : List LamR} {ms : List (M PV)} {i : Nat} {L : LamR}, LamsB X Tb k Ls ms → Ls[i]? = some L → ∃ m r, ms.drop i = m :: r ∧ ms.drop (i + 1) = r ∧ LamB X Tb k L m
  | _, _, i, L, .nil, e => by simp at e
  | _, _, 0, L, .cons b t, e => by simp at e; subst e; exact ⟨_, _, rfl, rfl, b⟩
  | _, _, i + 1, L, .cons b t, e => by
    obtain ⟨m, r, h1, h2, h3⟩ := LamsB.get (i := i) t (by simpa using e)
    exact ⟨m, r, by simpa using h1, by simpa using h2, h3⟩
theorem LamsAt.get {X : Cx} {F H : Hp} : ∀ {Ls : List LamR} {fs : List Addr} {i : Nat} {f : Addr}, LamsAt X F H Ls fs → fs[i]? = some f → ∃ L, Ls[i]? = some L ∧ LamAt X F H L f
  | _, _, i, f, .nil, e => by simp at e
  | _, _, 0, f, .cons b t, e => by simp at e; subst e; exact ⟨_, rfl, b⟩
  | _, _, i + 1, f, .cons b t, e => by
    obtain ⟨L, h1, h2⟩ := LamsAt.get (i := i) t (by simpa using e)
    exact ⟨L, by simpa using h1, h2⟩
def mBad (ik jf : Nat) (catch_ : Str → Option Bool) (ret s : Str) (ms : List (M PV)) : M Bool := fun e h => if ik < e.length ∧ jf < e.length then mBadL catch_ ret s ms e h else .stuck
theorem LamsAt.gb {X : Cx} {ρ : List Addr} {F H : Hp} {D : Addr} {ys : List V} {O : HO} (g : Gb ρ F H D ys) : ∀ {Ls : List LamR} {fs : List Addr}, LamsAt X F H Ls fs → LamsAt X F (upd H D O) Ls fs
  | _, _, .nil => .nil
  | _, _, .cons ⟨c', h1, h2⟩ t => .cons ⟨c', h1, by rw [upd_ne (fun z => by rw [z, g.at_] at h2; exact codeO_lst (Option.some.inj h2).symm)]; exact h2⟩ (LamsAt.gb g t)
def tTold (X : Cx) (Tb : TBs) (k jf : Nat) (catch_ : Str → Option Bool) (ret : Str) (σX : L2.St) : TE := fun σY H Q => ∃ fa ρ F e h L m W, σY[jf]? = some (some (V.ref fa)) ∧ Sim X.K Tb ρ F h H ∧ RE X.K ρ F H e σX ∧ LamAt X F H L fa ∧ LamB X Tb k L m ∧ post X.K Tb W (RV X.K) ρ F H σX (told catch_ ret m e h) Q
theorem dp_ints {K : PySem.W.Frag} {H : Hp} : ∀ js : List Int, DpAll K H (js.map V.int) (js.map PyData.int)
  | [] => .nil
  | j :: js => .cons (.int j) (dp_ints js)
theorem lay_ints : ∀ js : List Int, PyData.canLayAll0 (js.map PyData.int) = true
  | [] => rfl
  | j :: js => by simp [PyData.canLayAll0, PyData.canLay0, lay_ints js]
theorem deep_ints : ∀ js : List Int, PyData.depthAll (js.map PyData.int) = 0 := PySem.W.depth_ints
theorem shaped_ints (js : List Int) : SeqAt.shaped (.list (js.map PyData.int)) = true := by
  simp [SeqAt.shaped, PyData.canLay0, lay_ints, PyData.depth, deep_ints]
theorem Res.bind_same {r : Res Bool} : (r.bind fun b h => .ok (false || b) h) = r := by
  cases r <;> simp [Res.bind]
theorem eqv_nil (js : List Int) : PyData.eqv (.list (js.map PyData.int)) (.list []) = js.isEmpty := by
  cases js <;> simp [PyData.eqv, PyData.eqvAll]
section
variable {X : Cx} {Tb : TBs} {W : WX} {L : Addr}
theorem ptl_bad {kx fx bx x a ee ret s : Str} {Ng : List Str} {catch_ : Str → Option Bool} {k ik jf ib j1 kk : Nat} {Ls : List LamR} {ms : List (M PV)} {scope : Scope} {p1 p2 p3 p4 p5 p6 p7 p8 p9 p10 p11 p12 p13 pos lpos : Pos}
    (hr : Room (k + 2) X.A) (hl : Ls.length ≤ 1000000) (hc : X.calm = true) (hN : X.N.Nodup) (T : ToldD X x a ee ret Ng catch_) (hB : LamsB X Tb k Ls ms) (tk : TakesL X L W) (fm : Frm X L)
    (hge : Gl X "enumerate") (hme : X.mg "enumerate" = none) (hib : X.N[ib]? = some bx) (hik : X.N[ik]? = some kx) (hjf : X.N[jf]? = some fx) (hne : ik ≠ jf) (ok : BlkOk X.N X.env.scope scope [(kx, ik), (fx, jf)])
    (hvb : Vis X.env.scope bx) (hdb : (bx == ("__debug__" : Str)) = false) (hcb : (bx == ("__classdict__" : Str)) = false) (hdf : (fx == ("__debug__" : Str)) = false) (hcf : (fx == ("__classdict__" : Str)) = false) (hdk : (kx == ("__debug__" : Str)) = false) (hck : (kx == ("__classdict__" : Str)) = false)
    (hs1 : starEach [.Name bx p1] X.env = [(false, eval (.Name bx p1) X.env)])
    (hg : AtBlk X scope fun Y => PG Y (.Tuple [.Name kx p2, .Name fx p3] kk p4) (gTup X.K 2 (gCons (gName ik) (gCons (gName jf) gNil))))
    (hcall : AtBlk X scope fun Y => Gl Y x ∧ Vis Y.env.scope fx ∧ Vis Y.env.scope kx ∧ starEach [.Name fx p5] Y.env = (false, eval (.Name fx p5) Y.env) :: starEach [] Y.env)
    (hs : ∀ v, foldedSetIterable (.Call (.Name "enumerate" p6) [.Name bx p1] [] p7) X.env v = pure v := by intro _; rfl) :
    PMTL X Tb W ib Ls (.Compare (.ListComp (.Name kx p8) [⟨.Tuple [.Name kx p2, .Name fx p3] kk p4, .Call (.Name "enumerate" p6) [.Name bx p1] [] p7, [.Compare (.Call (.Name x p9) [.Name fx p5] [] p10) [.NotEq] [.Constant (.str s) j1 p11] p12], 0⟩] scope lpos) [.NotEq] [.List [] p13] pos) (mBad ik jf catch_ ret s ms) := by
  refine ⟨PT.imp (pt_cmpR (op_neD hr.units) (pe_lcXB (wi := iEnumA X.K (tCons (tVar ib) tNil)) (tt := fun σ => tTest (tOp (rNeD X.K) (tTold X Tb k jf catch_ ret σ) (tC (.str s)))) (te := fun _ => tVar ik) hc hN (pi_enumA hge hme (pa_cons (pe_var hib hvb hdb hcb) pa_nil hs1) hs1) ok tk fm hg
    (fun σ pins s0 H0 C cl fp xe back t => pts_one (pt_cmpR (op_neD hr.units) (pe_told T back (hcall s0 H0 C cl fp xe).1 hr hjf (hcall s0 H0 C cl fp xe).2.1 hdf hcf (hcall s0 H0 C cl fp xe).2.2.2) pe_str (nomark _)))
    (fun σ pins s0 H0 C cl fp xe back t => pe_var hik (hcall s0 H0 C cl fp xe).2.2.1 hdk hck) hs) (pe_lst pa_nil) (nomark _)) fun σ H Q q => ?_⟩
  obtain ⟨ρ0, F0, e, h0, s0, re0, ⟨pb, fs, hb1, hb2, hb3⟩, q0⟩ := q
  refine ⟨_, hb1, pb, rfl, .inl ⟨_, .inl (.inl (s0.le.at hb2 rfl)), fun D hD => ?_⟩⟩
  unfold mBad at q0
  split at q0
  case isFalse => exact q0.elim
  rename_i hlen
  have nF := s0.fnone hD
  have nR := s0.notin hD
  have lf := hb3.len
  refine ⟨fun i m H' => ∃ ρ F h, ∃ js : List Int, i + m = fs.length ∧ Ext ρ0 F0 H ρ F H' ∧ Sim X.K Tb ρ F h H' ∧ Gb ρ F H' D (js.map V.int) ∧ js.length ≤ i ∧ LamsAt X F H' Ls fs ∧
      post X.K Tb W (fun _ _ (a b : Bool) => a = b) ρ0 F0 H σ ((mBadL catch_ ret s (ms.drop i) e h).bind fun r h2 => .ok (!js.isEmpty || r) h2) Q,
    ⟨fs.length, ρ0, F0, h0, [], by omega, Ext.refl.gb hD, s0.gb nF nR (.inl hD), ⟨upd_same, nF, nR⟩, Nat.le_refl _, hb3.ext s0 (Ext.refl.gb hD), by
      show post X.K Tb W _ ρ0 F0 H σ ((mBadL catch_ ret s ms e h0).bind fun r h2 => .ok (false || r) h2) Q
      rw [Res.bind_same]; exact q0⟩, ?_⟩
  rintro i m H5 ⟨ρ5, F5, h5, js, him, x5, s5, g5, hji, l5, p5⟩
  have hq5 : SqL X.K H5 pb (fs.map V.ref) := .inl (.inl (s5.le.at (x5.up _ _ hb2) rfl))
  cases m with
  | zero =>
    refine .inl ⟨⟨_, hq5, by rw [List.length_map]; omega⟩, ?_⟩
    have hd : ms.drop i = [] := List.drop_eq_nil_iff.mpr (by rw [← hB.len, lf]; omega)
    rw [hd] at p5
    have p5 : post X.K Tb W (fun _ _ (a b : Bool) => a = b) ρ0 F0 H σ (.ok (!js.isEmpty || false) h5) Q := p5
    refine ⟨by simp, fun t ht => ?_⟩
    have x6 := x5.froze (ys := js.map V.int) hD g5.nf
    have s6 := s5.froze g5
    obtain ⟨s7, x7⟩ := s6.laid ht (o := .lst []) (fun ps z => by cases z)
    have hDt : D ≠ t := fun z => by have := g5.at_; rw [z, ht] at this; cases this
    refine ⟨.list (js.map .int), .list [], .lst (.inl (.inl (by rw [upd_ne hDt]; exact g5.at_))) (dp_ints js), .lst (.inl (.inl upd_same)) .nil, shaped_ints js, shaped_ints [], _, rfl, ?_⟩
    refine p5 _ _ _ _ (x6.trans x7) s7 ?_
    rw [eqv_nil, Bool.or_false]
  | succ m =>
    have hi : i < fs.length := by omega
    have hfi : fs[i]? = some fs[i] := List.getElem?_eq_getElem hi
    refine .inr ⟨⟨_, V.ref fs[i], hq5, by rw [List.getElem?_map, hfi]; rfl⟩, fun H' => ∃ ρ F h, ∃ js : List Int, (i + 1) + m = fs.length ∧ Ext ρ0 F0 H ρ F H' ∧ Sim X.K Tb ρ F h H' ∧ Gb ρ F H' D (js.map V.int) ∧ js.length ≤ i + 1 ∧ LamsAt X F H' Ls fs ∧
      post X.K Tb W (fun _ _ (a b : Bool) => a = b) ρ0 F0 H σ ((mBadL catch_ ret s (ms.drop (i + 1)) e h).bind fun r h2 => .ok (!js.isEmpty || r) h2) Q, fun H' w => ⟨m, Nat.lt_succ_self m, w⟩, fun x H' y => ?_⟩
    obtain ⟨t, xv, rfl, hT, rfl, hx⟩ := y
    have hxv : xv = V.ref fs[i] := by
      have := hx _ hq5
      rw [List.getElem?_map, hfi] at this
      exact (Option.some.inj this).symm
    subst hxv
    obtain ⟨s6, x6⟩ := s5.laid hT (o := .tup [.int (i : Nat), .ref fs[i]]) (fun ps z => by cases z)
    obtain ⟨Li, hLi, li⟩ := l5.get hfi
    obtain ⟨mi, rest, hd, hd1, lb⟩ := hB.get hLi
    rw [hd] at p5
    have x16 := x5.trans x6
    have g6 := g5.ext x6
    have l6 := l5.ext s5 x6
    have lenw : (wipe σ [ik, jf]).length = e.length := by rw [wipe_length, re0.len]
    have gj : (((wipe σ [ik, jf]).set ik (some (.int (i : Nat)))).set jf (some (.ref fs[i])))[jf]? = some (some (V.ref fs[i])) := by
      rw [List.getElem?_set_self (by rw [List.length_set, lenw]; exact hlen.2)]
    have gk : (((wipe σ [ik, jf]).set ik (some (.int (i : Nat)))).set jf (some (.ref fs[i])))[ik]? = some (some (V.int (i : Nat))) := by
      rw [List.getElem?_set_ne (Ne.symm hne), List.getElem?_set_self (by rw [lenw]; exact hlen.1)]
    refine ⟨t, [.int (i : Nat), .ref fs[i]], rfl, .inl (.inl upd_same), rfl, _, _, rfl, _, _, rfl, rfl, ?_, ?_⟩
    · refine wipe_idem (ns := [ik, jf]) (fun i hi => hi) (by rw [List.length_set, List.length_set, wipe_length]) fun j hj => ?_
      rw [List.mem_cons, List.mem_singleton, not_or] at hj
      rw [List.getElem?_set_ne (Ne.symm hj.2), List.getElem?_set_ne (Ne.symm hj.1)]
    · unfold mBadL at p5
      rw [Res.bind_assoc] at p5
      refine ⟨fs[i], ρ5, _, e, h5, Li, mi, W, gj, s6, re0.ext x16, li.ext s5 x6, lb, post_imp (post_at p5 x16) fun v H7 ⟨ρ7, F7, h7, v', x7, s7, rv, p7⟩ => ?_⟩
      cases hgq : gEqv v' (.str s) with
      | none => simp only [hgq] at p7; exact p7.elim
      | some b =>
        simp only [hgq] at p7
        obtain ⟨d, d', e1, e2, e3, e4, rfl⟩ := gEqv_some hgq
        simp only [toD] at e2
        cases e2
        refine ⟨d, .str s, RV.dp s7.le _ _ _ rv e1, .str s, e3, e4, _, rfl, ?_⟩
        rw [Res.bind_assoc] at p7
        have g7 := g6.ext x7
        have x17 := x16.trans x7
        have l7 := l6.ext s6 x7
        cases hb : PyData.eqv d (.str s) with
        | true =>
          rw [hb] at p7
          refine ⟨ρ7, F7, h7, js, by omega, x17, s7, g7, Nat.le_succ_of_le hji, l7, ?_⟩
          rw [hd1]
          simpa [Res.bind] using p7
        | false =>
          rw [hb] at p7
          refine ⟨.int (i : Nat), gk, js.map V.int, g7.at_, Nat.lt_of_le_of_lt (by rw [List.length_map]; exact Nat.le_trans hji (by omega : i ≤ 1000000)) (by decide), ?_⟩
          refine ⟨ρ7, F7, h7, js ++ [((i : Nat) : Int)], by omega, x17.gb hD, s7.gb g7.nf g7.nr (.inr ⟨_, g7.at_⟩), ⟨by rw [List.map_append]; exact upd_same, g7.nf, g7.nr⟩, by rw [List.length_append]; simpa using hji, l7.gb g7, ?_⟩
          rw [hd1]
          have hE : (js ++ [((i : Nat) : Int)]).isEmpty = false := by cases js <;> rfl
          rw [hE]
          simpa [Res.bind] using p7
end
end PM
end
section
set_option Elab.async false
set_option linter.all false
set_option maxRecDepth 100000
set_option autoImplicit false
set_option maxHeartbeats 4000000
namespace PM
open PySem PySem.Spec PyProof.Rows L2

section
variable {X : Cx} {Tb : TBs} {P c : Addr}
theorem pe_lamE {params : Arguments} {body : Expr} {scope : Scope} {pos : Pos} (TB : LamX.TabB X.base X.mg c P) (hcode : X.env.code = .ref c) (hm : (P, X.env.qual ++ "<lambda>") ∈ Tb.l) (hu : ∀ p ∈ Tb.l, p.1 = P → p.2 = X.env.qual ++ "<lambda>") (S : LamX.LamS X.env.scope scope) (hdef : defaultsOf params X.env = ([], []) := by rfl) :
    PE X (.Lambda params body scope pos) (tFrom X.K Tb fun F H v => ∃ f, v = V.ref f ∧ LamAt X F H ⟨params, body, scope⟩ f) := pe_lam1 (L := ⟨params, body, scope⟩) TB hcode hm hu hdef S
end
section
variable {fa : List He.Fa} {fn : List He.DefD} {ts : List He.Tab} {tf tl : List He.Defn} {cs : List (Str × PV)} {es : List Str} {P : Program} {w : World} {K : PySem.W.Frag} {mg : Str → Option Value} {base : Heap}
theorem Wd.fund (C : Wd fa fn ts tf tl cs es w K mg base) (i : Nat) {x : Str} {d : He.DefD} (hd : fn[i]? = some d) (hx : d.at_ = (x, none)) (h0 : d.dfl = []) (h1 : d.kwd = []) : ∃ fd, FunD K d.name d.qual d.params d.body d.scope [] [] (He.fAd K (x, none)) fd := by
  obtain ⟨fd, hF⟩ := C.d.def_ i hd
  have e1 : d.dvs K = [] := by unfold He.DefD.dvs; rw [h0]; rfl
  have e2 : d.kws K = [] := by unfold He.DefD.kws; rw [h1]; rfl
  rw [hx, e1, e2] at hF
  exact ⟨fd, hF⟩
end
/-! ### the lambdas of a def's lists, in a row -/
def lamR : Expr → Option LamR
  | .Lambda p b s _ => some ⟨p, b, s⟩
  | _ => none
def lamsE : Expr → List LamR
  | .List es _ => es.filterMap lamR
  | .BinOp _ _ (.List es _) _ => es.filterMap lamR
  | _ => []
def lamsOf : List Stmt → List LamR
  | [] => []
  | .Assign _ e _ :: r => lamsE e ++ lamsOf r
  | _ :: r => lamsOf r
/-! ### the end of a law -/
/-- what a law's def must be, in plain words -/
def LawOk (F : PF) (n : Nat) : Prop := ∀ ns : List Int, ns.length ≤ n → (∀ z ∈ ns, Builtin.Int.intBits z ≤ 1048576) → ∃ h, F [.lst (ns.map .int)] [] = .ok (.bl true) h
theorem rvs_ints {K : PySem.W.Frag} {ρ : List Addr} {F : Hp} : ∀ ns : List Int, RVs K ρ F (ns.map .int) (ns.map V.int)
  | [] => .nil
  | n :: ns => .cons (.int n) (rvs_ints ns)
theorem law_sp {K : PySem.W.Frag} {tf tl : List He.Defn} {F : PF} {ns : List Int} {H : Hp} {a : Addr} (hd : ∀ p ∈ (TbOf tf tl K).l, p.1 ∉ (TbOf tf tl K).g) (hT : ∀ p ∈ (tf ++ tl).map (He.cT K), H p.2 = some (.tbl #[])) (hS : SqL K H a (ns.map V.int)) (hF : ∃ h, F [.lst (ns.map .int)] [] = .ok (.bl true) h) :
    spP K (TbOf tf tl K) 1 F [.ref a] H (fun v _ => v = .bl true) fun _ _ _ => False := by
  have tb : ∀ p ∈ tf ++ tl, H (He.cT K p).2 = some (.tbl #[]) := fun p hp => hT _ (List.mem_map.mpr ⟨p, hp, rfl⟩)
  have Tn : ∀ b, H b = some (.tbl #[]) ∨ H b ≠ some (.tbl #[]) := fun b => Classical.em _
  refine ⟨[], fun b => open Classical in if H b = some (.tbl #[]) then none else H b, [], [.lst (ns.map .int)], ?_, ?_, rfl, ?_⟩
  · refine ⟨fun b o e => ?_, rfl, List.nodup_nil, fun p hp => by simp at hp, fun i o e => by simp at e, fun P hP => ?_, fun P hP => ?_, ⟨fun p hp => ?_, fun p hp => ?_, hd⟩⟩
    · by_cases q : H b = some (.tbl #[])
      · simp [q] at e
      · simp [q] at e; exact .inl e
    · obtain ⟨p, hp, rfl⟩ := List.mem_map.mp (show P ∈ tf.map fun p => (He.cT K p).2 from hP)
      exact ⟨#[], tb p (List.mem_append_left _ hp), trivial⟩
    · obtain ⟨p, hp, rfl⟩ := List.mem_map.mp (show P ∈ tf.map fun p => (He.cT K p).2 from hP)
      exact if_pos (tb p (List.mem_append_left _ hp))
    · obtain ⟨q, hq, rfl⟩ := List.mem_map.mp hp
      exact .nil (tb q (List.mem_append_right _ hq))
    · obtain ⟨q, hq, rfl⟩ := List.mem_map.mp hp
      exact if_pos (tb q (List.mem_append_right _ hq))
  · refine .cons (.lst ?_ (rvs_ints ns)) .nil
    rcases hS with (z | ⟨o, z⟩) | z
    · exact .inl (.inl (by dsimp only; rw [if_neg (by rw [z]; simp)]; exact z))
    · exact .inl (.inr ⟨o, by dsimp only; rw [if_neg (by rw [z]; simp)]; exact z⟩)
    · exact .inr z
  · obtain ⟨h, e⟩ := hF
    rw [e]
    intro ρ' F' H' x _ _ r
    cases r
    rfl
theorem law_at {fa : List He.Fa} {fn : List He.DefD} {tf tl : List He.Defn} {cs : List (Str × PV)} {es : List Str} {l : PySem.W.OpenLaw} {w : World} {K : PySem.W.Frag} {mg : Str → Option Value} {h : Heap} {f : Addr} {F : PF} {k n : Nat} {x y : Str} (i j : Nat) {d : He.DefD}
    (KX : K.In h) (G : h.Ns mainGlobals mg) (hf : mg y = some (.ref f)) (c : He.SaysX fa fn [] (tf ++ tl) (exB cs es tf tl) w h K) (hd : fn[i]? = some d) (hg : fa[j]? = some (.glo y)) (hx : d.at_ = (y, none)) (h0 : d.dfl = []) (h1 : d.kwd = [])
    (hb : ∀ (kV doc pm : Value) (an : Option Addr) (cdv ct : Value) (us : List Value), us.length = 1 → bindArgs (PySem.W.fnOf d.name d.qual d.params d.body d.scope .none kV doc pm an cdv ct) ⟨us, []⟩ = pure ([x].zip us))
    (ok : ∀ (base : Heap), Wd fa fn [] tf tl cs es w K mg base → ∀ fd, FunD K d.name d.qual d.params d.body d.scope [] [] (He.ga K y) fd → FnOk l.prog w K mg base (L2.CX l.prog w) k (He.ga K y) fd [x] (spP K (TbOf tf tl K) 1 F)) (hF : LawOk F n) : LamX.LawAtS l w K (L2.CX l.prog w) k n x mg f h := by
  have cd : He.SaysD fa fn K := congrArg (fun z : He.AlT => z.1) c.t
  obtain ⟨fd, hfd⟩ := cd.def_ i hd
  have e1 : d.dvs K = [] := by unfold He.DefD.dvs; rw [h0]; rfl
  have e2 : d.kws K = [] := by unfold He.DefD.kws; rw [h1]; rfl
  rw [hx, e1, e2] at hfd
  have e := hf.symm.trans (He.glo_ok KX G (cd.fact j hg))
  cases e
  have ap : ∀ base, (∀ p ∈ (tf ++ tl).map (He.cT K), LamX.TabB base mg p.1 p.2) → ∀ p ∈ tf ++ tl, LamX.TabB base mg (He.cT K p).1 (He.cT K p).2 := fun base t p hp => t _ (List.mem_map.mpr ⟨p, hp, rfl⟩)
  refine ⟨fd, (tf ++ tl).map (He.cT K), spP K (TbOf tf tl K) 1 F, fun p hp => ?_, fun p hp => ?_, fun p hp => ?_, fun s v => FunD.bindsA (ps := [x]) hfd hb s [v] rfl, fun H a ns l1 l2 hT hS => ?_, fun base KB GB TB => ok base ⟨c.t, c.more, KB, GB, ap base TB⟩ fd hfd⟩
  · obtain ⟨q, hq, rfl⟩ := List.mem_map.mp hp
    exact c.empty q hq
  · obtain ⟨q, hq, rfl⟩ := List.mem_map.mp hp
    exact c.out q hq
  · obtain ⟨q, hq, rfl⟩ := List.mem_map.mp hp
    exact PySem.W.codeHd_of_K KX (c.hd q hq)
  · refine law_sp (fun p hp hq => ?_) hT hS (hF ns l1 l2)
    obtain ⟨a', ha, rfl⟩ := List.mem_map.mp hp
    obtain ⟨b, hb', e⟩ := List.mem_map.mp hq
    have z := List.all_eq_true.mp (List.all_eq_true.mp (He.ba (He.ba c.more).1).1 a' ha) b hb'
    rw [decide_eq_true e.symm] at z
    cases z
theorem cx_no {P : Program} {w : World} {H : Hp} {s : Shared} {e : Value} {s' : Shared} (h : L2.CX P w [] H s (fun _ _ _ => False) e s') : False := by
  obtain ⟨_, _, _, _, _, _, _, _, _, _, _, _, z⟩ := h
  exact z
end PM
end
section
set_option Elab.async false
set_option linter.all false
set_option maxRecDepth 100000
set_option autoImplicit false
set_option maxHeartbeats 4000000
namespace PM
open PySem PySem.Spec PyProof.Rows L2

/-! ### a def that hands over and hands back nothing that changes: it may be run on an empty heap -/
mutual
def noRef : PV → Bool
  | .ref _ => false
  | .tup xs => noRefs xs
  | .lst xs => noRefs xs
  | .non => true
  | .bl _ => true
  | .int _ => true
  | .str _ => true
  | .fn _ => true
def noRefs : List PV → Bool
  | [] => true
  | x :: xs => noRef x && noRefs xs
end
section
variable {K : PySem.W.Frag} {ρ ρ' : List Addr} {F : Hp}
mutual
theorem RV.anyρ : ∀ (d : PV) (v : V), noRef d = true → RV K ρ F d v → RV K ρ' F d v
  | .non, _, _, r => by cases r; exact .non
  | .bl b, _, _, r => by cases r; exact .bl b
  | .int b, _, _, r => by cases r; exact .int b
  | .str b, _, _, r => by cases r; exact .str b
  | .tup ds, _, n, r => by cases r with | tup a b => exact .tup a (RVs.anyρ ds _ (by simpa only [noRef] using n) b)
  | .lst ds, _, n, r => by cases r with | lst a b => exact .lst a (RVs.anyρ ds _ (by simpa only [noRef] using n) b)
  | .ref i, _, n, r => by simp [noRef] at n
  | .fn a, _, _, r => by cases r; exact .fn a
theorem RVs.anyρ : ∀ (ds : List PV) (vs : List V), noRefs ds = true → RVs K ρ F ds vs → RVs K ρ' F ds vs
  | [], _, _, r => by cases r; exact .nil
  | d :: ds, _, n, r => by
    simp only [noRefs, Bool.and_eq_true] at n
    cases r with | cons a b => exact .cons (RV.anyρ d _ n.1 a) (RVs.anyρ ds _ n.2 b)
end
end
def fZ (f : PF) : PF := fun xs h => if noRefs xs = true then (match f xs [] with
  | .ok v _ => if noRef v = true then .ok v h else .stuck
  | .exc c _ => .exc c h
  | .stuck => .stuck) else .stuck
section
variable {K : PySem.W.Frag} {Tb : TBs} {ρ ρ' : List Addr} {F F' H H' : Hp} {h h' : Hm}
theorem Sim.none_ (s : Sim K Tb ρ F h H) : Sim K Tb [] F [] H := ⟨s.le, rfl, List.nodup_nil, fun _ hp => by simp at hp, fun _ _ e => by simp at e, s.tb, s.tf, s.lm⟩
theorem Sim.back_ (s : Sim K Tb ρ F h H) (x : Ext [] F H ρ' F' H') (s' : Sim K Tb ρ' F' h' H') : Ext ρ F H ρ F' H' ∧ Sim K Tb ρ F' h H' := by
  refine ⟨⟨⟨[], by simp, by simp⟩, x.up, x.fr, fun p O e _ n => x.keep p O e (by simp) n, x.per⟩, ⟨s'.le, s.len, s.nd, fun p hp => ?_, fun i o e => ?_, s'.tb, s'.tf, s'.lm⟩⟩
  · cases q : F' p with
    | none => rfl
    | some o =>
      rcases x.fr p o q with z | z
      · rw [s.off p hp] at z; cases z
      · obtain ⟨o, e⟩ := s.rsome hp
        rw [z] at e; cases e
  · obtain ⟨p, O, e1, e2, r⟩ := s.ob i o e
    refine ⟨p, O, e1, x.keep p O e2 (by simp) ?_, ?_⟩
    · cases r with
      | lst r => intro ps z; cases z
    · cases r with
      | lst r => exact .lst (RVs.up (fun _ _ e => e) x.up _ _ r)
theorem spP_Z {n : Nat} {f : PF} {vs : List V} {Q : VK} {E : XK} (h : spP K Tb n (fZ f) vs H Q E) : spP K Tb n f vs H Q E := by
  obtain ⟨ρ, F, h, ds, s, r, l, p⟩ := h
  unfold fZ at p
  split at p
  · rename_i nr
    refine ⟨[], F, [], ds, s.none_, RVs.anyρ ds vs nr r, l, ?_⟩
    cases e : f ds [] with
    | ok v h1 =>
      rw [e] at p
      dsimp only at p
      split at p
      · rename_i nv
        intro ρ' F' H' x ex s' rv
        obtain ⟨ex2, s2⟩ := s.back_ ex s'
        exact p ρ F' H' x ex2 s2 (RV.anyρ v x nv rv)
      · exact p.elim
    | exc c h1 =>
      rw [e] at p
      intro ρ' F' H' ex s'
      obtain ⟨ex2, s2⟩ := s.back_ ex s'
      exact p ρ F' H' ex2 s2
    | stuck => rw [e] at p; exact p.elim
  · exact p.elim
end
theorem OkD.Z {P : Program} {w : World} {K : PySem.W.Frag} {mg : Str → Option Value} {base : Heap} {Tb : TBs} {k : Nat} {x : Str} {ps : List Str} {F : PF} (G : OkD P w K mg base Tb k x ps F) : OkD P w K mg base Tb k x ps (fZ F) := by
  obtain ⟨fd, h1, h2⟩ := G.ex
  exact ⟨⟨fd, h1.imp fun vs H Q E q => spP_Z q, h2⟩, G.kp, G.gl⟩
end PM
end
section
set_option Elab.async false
set_option linter.all false
set_option maxRecDepth 100000
set_option autoImplicit false
set_option maxHeartbeats 4000000
namespace PL
open PySem PySem.Spec PM

/-! ### plain lemmas on values -/
@[simp] theorem bind_ok {α β : Type} {v : α} {h : Hm} {k : α → Hm → Res β} : (Res.ok v h).bind k = k v h := rfl
@[simp] theorem bind_exc {α β : Type} {c : Str} {h : Hm} {k : α → Hm → Res β} : (Res.exc c h : Res α).bind k = .exc c h := rfl
theorem shaped_int (a : Int) : SeqAt.shaped (.int a) = true := rfl
@[simp] theorem gEqv_int (a b : Int) : gEqv (.int a) (.int b) = some (decide (a = b)) := by
  simp [gEqv, toD, shaped_int, PyData.eqv]
  by_cases h : a = b <;> simp [h]
@[simp] theorem gEq_int (a b : Int) : gEq (.int a) (.int b) = some (.bl (decide (a = b))) := by simp [gEq]
@[simp] theorem gNe_int (a b : Int) : gNe (.int a) (.int b) = some (.bl (!decide (a = b))) := by simp [gNe]
theorem dataLt_int (a b : Int) : PySem.W.dataLt (.int a) (.int b) = decide (a < b) := by
  have h := PySem.W.dataLe_int (fun b : Int => b)
  have e : PySem.W.dataLe false (fun b : Int => PyData.int b) b a = !PySem.W.dataLt (.int a) (.int b) := rfl
  rw [h] at e
  have e2 : decide (b ≤ a) = !PySem.W.dataLt (.int a) (.int b) := e
  by_cases q : a < b
  · rw [decide_eq_true q]
    rw [decide_eq_false (by omega)] at e2
    revert e2
    cases PySem.W.dataLt (.int a) (.int b) <;> simp
  · rw [decide_eq_false q]
    rw [decide_eq_true (by omega)] at e2
    revert e2
    cases PySem.W.dataLt (.int a) (.int b) <;> simp
theorem clt_int (a b : Int) : CLt (.int a) (.int b) := by
  unfold CLt okLt
  rfl
@[simp] theorem gLt_int (a b : Int) : gLt (.int a) (.int b) = some (.bl (decide (a < b))) := by
  unfold gLt gDD gLtv
  simp only [toD]
  rw [if_pos (clt_int a b), dataLt_int]; rfl
@[simp] theorem gGt_int (a b : Int) : gGt (.int a) (.int b) = some (.bl (decide (b < a))) := by
  unfold gGt gDD
  simp only [toD]
  rw [if_pos (clt_int a b), dataLt_int]; rfl
@[simp] theorem gLe_int (a b : Int) : gLe (.int a) (.int b) = some (.bl (decide (a ≤ b))) := by
  unfold gLe gDD
  simp only [toD]
  rw [if_pos (clt_int a b), dataLt_int]
  by_cases q : a ≤ b
  · rw [decide_eq_true q, decide_eq_false (by omega)]; rfl
  · rw [decide_eq_false q, decide_eq_true (by omega)]; rfl
@[simp] theorem gGe_int (a b : Int) : gGe (.int a) (.int b) = some (.bl (decide (b ≤ a))) := by
  unfold gGe gDD
  simp only [toD]
  rw [if_pos (clt_int a b), dataLt_int]
  by_cases q : b ≤ a
  · rw [decide_eq_true q, decide_eq_false (by omega)]; rfl
  · rw [decide_eq_false q, decide_eq_true (by omega)]; rfl
@[simp] theorem pure2_some {g : PV → PV → Option PV} {x y z : PV} {h : Hm} (e : g x y = some z) : pure2 g x y h = .ok z h := by
  unfold pure2; rw [e]
/-! ### what an expression gives -/
section
variable {e : En} {h h1 h2 h3 : Hm} {a b : M PV} {x y z : PV} {f : PV → PV → Hm → Res PV} {ms : M (List PV)} {xs : List PV} {r : Res PV}
theorem op_ (ha : a e h = .ok x h1) (hb : b e h1 = .ok y h2) (hf : f x y h2 = r) : mOp f a b e h = r := by
  unfold mOp; rw [ha]; show (b e h1).bind _ = _; rw [hb]; exact hf
theorem op2_ {g : PV → PV → Option PV} (ha : a e h = .ok x h1) (hb : b e h1 = .ok y h2) (hf : g x y = some z) : mOp (pure2 g) a b e h = .ok z h2 := op_ ha hb (pure2_some hf)
theorem cons_ (ha : a e h = .ok x h1) (hb : ms e h1 = .ok xs h2) : mCons a ms e h = .ok (x :: xs) h2 := by
  unfold mCons; rw [ha]; show (ms e h1).bind _ = _; rw [hb]; rfl
theorem call_ {F : PF} (hm : ms e h = .ok xs h1) (hf : F xs h1 = r) : mCall F ms e h = r := by
  unfold mCall; rw [hm]; exact hf
theorem tst_ {t : Bool} (ha : a e h = .ok (.bl t) h1) : mTst a e h = .ok t h1 := by
  unfold mTst; rw [ha]; rfl
theorem ix_ref {i : Nat} {k : Int} {v : PV} (q : h[i]? = some (.lst xs)) (p : L2.atI xs k = some v) : fIx (.ref i) (.int k) h = .ok v h := by
  simp only [fIx, PM.rowOf, PM.listOf, q, p]
theorem or_t {t u : M Bool} (ht : t e h = .ok true h1) : mOr t u e h = .ok true h1 := by unfold mOr; rw [ht]; rfl
theorem or_f {t u : M Bool} {r : Res Bool} (ht : t e h = .ok false h1) (hu : u e h1 = r) : mOr t u e h = r := by unfold mOr; rw [ht]; exact hu
theorem and_f {t u : M Bool} (ht : t e h = .ok false h1) : mAnd t u e h = .ok false h1 := by unfold mAnd; rw [ht]; rfl
theorem and_t {t u : M Bool} {r : Res Bool} (ht : t e h = .ok true h1) (hu : u e h1 = r) : mAnd t u e h = r := by unfold mAnd; rw [ht]; exact hu
theorem not_ {t : M Bool} {b : Bool} (ht : t e h = .ok b h1) : mNot t e h = .ok (!b) h1 := by unfold mNot; rw [ht]; rfl
theorem if_t {α : Type} {t : M Bool} {p q : M α} {r : Res α} (ht : t e h = .ok true h1) (hp : p e h1 = r) : mIf t p q e h = r := by unfold mIf; rw [ht]; exact hp
theorem if_f {α : Type} {t : M Bool} {p q : M α} {r : Res α} (ht : t e h = .ok false h1) (hp : q e h1 = r) : mIf t p q e h = r := by unfold mIf; rw [ht]; exact hp
/-! ### what a statement does -/
variable {s t : Sm} {fl : Fl} {e1 e2 : En}
theorem seq_ (hs : s e h = .nx e1 h1) (ht : t e1 h1 = fl) : sSeq s t e h = fl := by unfold sSeq; rw [hs]; exact ht
theorem seq_rt {v : PV} (hs : s e h = .rt v h1) : sSeq s t e h = .rt v h1 := by unfold sSeq; rw [hs]
theorem seq_exc {c : Str} (hs : s e h = .exc c e1 h1) : sSeq s t e h = .exc c e1 h1 := by unfold sSeq; rw [hs]
theorem sif_t {c : M Bool} (hc : c e h = .ok true h1) (hs : s e h1 = fl) : sIf c s t e h = fl := by unfold sIf bindS; rw [hc]; exact hs
theorem sif_f {c : M Bool} (hc : c e h = .ok false h1) (ht : t e h1 = fl) : sIf c s t e h = fl := by unfold sIf bindS; rw [hc]; exact ht
theorem sset_ {i : Nat} (ha : a e h = .ok x h1) : sSet i a e h = .nx (e.set i (.val x)) h1 := by unfold sSet bindS; rw [ha]
theorem sret_ (ha : a e h = .ok x h1) : sRet a e h = .rt x h1 := by unfold sRet bindS; rw [ha]
theorem sdrop_ (ha : a e h = .ok x h1) : sDrop a e h = .nx e h1 := by unfold sDrop bindS; rw [ha]
theorem sasg_ {g : Gm} (ha : a e h = .ok x h1) (hg : g x e = some e1) : sAsg g a e h = .nx e1 h1 := by unfold sAsg bindS; rw [ha]; show (match g x e with | some e1 => Fl.nx e1 h1 | none => .stuck) = _; rw [hg]
theorem ssetix_ {mo mi me : M PV} {v : PV} {h4 : Hm} (hv : me e h = .ok v h1) (ho : mo e h1 = .ok x h2) (hi : mi e h2 = .ok y h3) (hp : putIx x y v h3 = some h4) : sSetIx mo mi me e h = .nx e h4 := by
  unfold sSetIx bindS
  rw [hv]; dsimp only
  rw [ho]; dsimp only
  rw [hi]; dsimp only
  rw [hp]
theorem body_rt {n N : Nat} {m : Sm} {ds : List PV} {v : PV} (hl : ds.length = n) (hm : m (startP N ds) h = .rt v h1) : bodyF n N m ds h = .ok v h1 := by unfold bodyF; rw [if_pos hl, hm]; rfl
theorem body_nx {n N : Nat} {m : Sm} {ds : List PV} (hl : ds.length = n) (hm : m (startP N ds) h = .nx e1 h1) : bodyF n N m ds h = .ok .non h1 := by unfold bodyF; rw [if_pos hl, hm]; rfl
theorem body_exc {n N : Nat} {m : Sm} {ds : List PV} {c : Str} (hl : ds.length = n) (hm : m (startP N ds) h = .exc c e1 h1) : bodyF n N m ds h = .exc c h1 := by unfold bodyF; rw [if_pos hl, hm]; rfl
end
end PL
end
section
set_option Elab.async false
set_option linter.all false
set_option maxRecDepth 100000
set_option autoImplicit false
set_option maxHeartbeats 4000000
namespace PL
open PySem PySem.Spec PM
/-! ### the sort, of anything by anything -/
def insA {α : Type} (le : α → α → Bool) (a : α) : List α → List α
  | [] => [a]
  | b :: bs => if le a b = true then a :: b :: bs else b :: insA le a bs
def isortA {α : Type} (le : α → α → Bool) : List α → List α
  | [] => []
  | a :: l => insA le a (isortA le l)
theorem insA_mem {α : Type} {le : α → α → Bool} {a x : α} : ∀ {l : List α}, x ∈ insA le a l → x = a ∨ x ∈ l
  | [], h => by simp [insA] at h; exact .inl h
  | b :: bs, h => by
    unfold insA at h
    split at h
    · exact List.mem_cons.mp h
    · rcases List.mem_cons.mp h with rfl | h
      · exact .inr List.mem_cons_self
      · rcases insA_mem h with e | e
        · exact .inl e
        · exact .inr (List.mem_cons_of_mem _ e)
theorem isortA_mem {α : Type} {le : α → α → Bool} {x : α} : ∀ {l : List α}, x ∈ isortA le l → x ∈ l
  | [], h => by simp [isortA] at h
  | a :: l, h => by
    unfold isortA at h
    rcases insA_mem h with rfl | h
    · exact List.mem_cons_self
    · exact List.mem_cons_of_mem _ (isortA_mem h)
theorem insA_len {α : Type} {le : α → α → Bool} {a : α} : ∀ {l : List α}, (insA le a l).length = l.length + 1
  | [] => rfl
  | b :: bs => by
    unfold insA
    split
    · rfl
    · simp [insA_len (l := bs)]
theorem isortA_len {α : Type} {le : α → α → Bool} : ∀ {l : List α}, (isortA le l).length = l.length
  | [] => rfl
  | a :: l => by unfold isortA; rw [insA_len, isortA_len]; rfl
theorem insA_congr {α : Type} {le le' : α → α → Bool} {a : α} : ∀ {l : List α}, (∀ b ∈ l, le a b = le' a b) → insA le a l = insA le' a l
  | [], _ => rfl
  | b :: bs, h => by
    unfold insA
    rw [h b List.mem_cons_self, insA_congr fun c hc => h c (List.mem_cons_of_mem _ hc)]
theorem isortA_congr {α : Type} {le le' : α → α → Bool} : ∀ {l : List α}, (∀ a ∈ l, ∀ b ∈ l, le a b = le' a b) → isortA le l = isortA le' l
  | [], _ => rfl
  | a :: l, h => by
    unfold isortA
    rw [isortA_congr fun x hx y hy => h x (List.mem_cons_of_mem _ hx) y (List.mem_cons_of_mem _ hy)]
    exact insA_congr fun b hb => h a List.mem_cons_self b (List.mem_cons_of_mem _ (isortA_mem hb))
theorem insD_map {α : Type} {f : α → PV} {a : α} : ∀ {l : List α}, insD (f a) (l.map f) = (insA (fun x y => leD (f x) (f y)) a l).map f
  | [] => rfl
  | b :: bs => by
    show insD (f a) (f b :: bs.map f) = _
    unfold insD insA
    split
    · rfl
    · rw [insD_map]; rfl
theorem isortD_map {α : Type} {f : α → PV} : ∀ {l : List α}, isortD (l.map f) = (isortA (fun x y => leD (f x) (f y)) l).map f
  | [] => rfl
  | a :: l => by
    show insD (f a) (isortD (l.map f)) = _
    rw [isortD_map, insD_map]; rfl
theorem leD_eq {x y : PV} {d e : PyData} (hx : toD x = some d) (hy : toD y = some e) : leD x y = !PySem.W.dataLt e d := by
  unfold leD toDD
  rw [PySem.W.dataLe_eq]
  simp only [hx, hy, Option.getD_some]
  rfl
/-! ### loops that keep something -/
theorem compL_inv {g : Gm} {mt : M Bool} {me : M PV} {e : En} (I : Hm → Prop) (P : PV → Prop) : ∀ {ds : List PV} {h : Hm}, (∀ d ∈ ds, ∃ e1, g d e = some e1 ∧ ∀ h, I h → mt e1 h = .ok true h ∧ ∃ v h', me e1 h = .ok v h' ∧ P v ∧ I h') → I h →
    ∃ xs h', compL g mt me e ds h = .ok xs h' ∧ xs.length = ds.length ∧ (∀ x ∈ xs, P x) ∧ I h'
  | [], h, _, hi => ⟨[], h, rfl, rfl, by simp, hi⟩
  | d :: ds, h, hg, hi => by
    obtain ⟨e1, g1, k⟩ := hg d List.mem_cons_self
    obtain ⟨t1, v, h', m1, p1, i1⟩ := k h hi
    obtain ⟨xs, h2, c2, l2, p2, i2⟩ := compL_inv (e := e) I P (ds := ds) (h := h') (fun d hd => hg d (List.mem_cons_of_mem _ hd)) i1
    refine ⟨v :: xs, h2, ?_, by simp [l2], fun x hx => ?_, i2⟩
    · simp only [compL, g1, t1, m1, c2, bind_ok, if_true]
    · rcases List.mem_cons.mp hx with rfl | hx
      · exact p1
      · exact p2 x hx
/-- a comprehension that leaves the heap: filter, then map -/
theorem compL_pure {g : Gm} {mt : M Bool} {me : M PV} {e : En} {t : PV → Bool} {f : PV → PV} : ∀ {ds : List PV} {h : Hm}, (∀ d ∈ ds, ∃ e1, g d e = some e1 ∧ mt e1 h = .ok (t d) h ∧ (t d = true → me e1 h = .ok (f d) h)) →
    compL g mt me e ds h = .ok ((ds.filter t).map f) h
  | [], h, _ => rfl
  | d :: ds, h, hg => by
    obtain ⟨e1, g1, t1, m1⟩ := hg d List.mem_cons_self
    have ih := compL_pure (e := e) (t := t) (f := f) (ds := ds) (h := h) fun x hx => hg x (List.mem_cons_of_mem _ hx)
    cases ht : t d with
    | true =>
      rw [ht] at t1
      simp only [compL, g1, t1, m1 ht, ih, bind_ok, if_true, List.filter_cons, ht, List.map_cons]
    | false =>
      rw [ht] at t1
      simp [compL, g1, t1, ih, List.filter_cons, ht]
end PL
end
section
set_option Elab.async false
set_option linter.all false
set_option maxRecDepth 100000
set_option autoImplicit false
set_option maxHeartbeats 4000000
namespace PL
open PySem PySem.Spec PM
/-! ### equality of plain data -/
mutual
/-- numbers, texts, tuples, lists of them -/
def isD : PyData → Bool
  | .int _ => true
  | .str _ => true
  | .tuple xs => isDs xs
  | .list xs => isDs xs
  | _ => false
def isDs : List PyData → Bool
  | [] => true
  | x :: xs => isD x && isDs xs
end
mutual
theorem eqv_eq : ∀ (x y : PyData), isD x = true → isD y = true → PyData.eqv x y = true → x = y
  | .int a, y, _, hy, h => by
    cases y <;> simp_all [isD, PyData.eqv]
  | .str a, y, _, hy, h => by
    cases y <;> simp_all [isD, PyData.eqv]
  | .tuple xs, y, hx, hy, h => by
    cases y with
    | tuple ys =>
      simp only [isD] at hx hy
      simp only [PyData.eqv] at h
      rw [eqvs_eq xs ys hx hy h]
    | _ => simp_all [isD, PyData.eqv]
  | .list xs, y, hx, hy, h => by
    cases y with
    | list ys =>
      simp only [isD] at hx hy
      simp only [PyData.eqv] at h
      rw [eqvs_eq xs ys hx hy h]
    | _ => simp_all [isD, PyData.eqv]
  | .none, y, hx, _, _ => by simp [isD] at hx
  | .bool _, y, hx, _, _ => by simp [isD] at hx
  | .dict _, y, hx, _, _ => by simp [isD] at hx
theorem eqvs_eq : ∀ (xs ys : List PyData), isDs xs = true → isDs ys = true → PyData.eqvAll xs ys = true → xs = ys
  | [], [], _, _, _ => rfl
  | [], y :: ys, _, _, h => by simp [PyData.eqvAll] at h
  | x :: xs, [], _, _, h => by simp [PyData.eqvAll] at h
  | x :: xs, y :: ys, hx, hy, h => by
    simp only [isDs, Bool.and_eq_true] at hx hy
    simp only [PyData.eqvAll, Bool.and_eq_true] at h
    rw [eqv_eq x y hx.1 hy.1 h.1, eqvs_eq xs ys hx.2 hy.2 h.2]
end
mutual
theorem eqv_self : ∀ x : PyData, isD x = true → PyData.eqv x x = true
  | .int a, _ => by simp [PyData.eqv]
  | .str a, _ => by simp [PyData.eqv]
  | .tuple xs, h => by
    simp only [isD] at h
    simp only [PyData.eqv]
    exact eqvs_self xs h
  | .list xs, h => by
    simp only [isD] at h
    simp only [PyData.eqv]
    exact eqvs_self xs h
  | .none, h => by simp [isD] at h
  | .bool _, h => by simp [isD] at h
  | .dict _, h => by simp [isD] at h
theorem eqvs_self : ∀ xs : List PyData, isDs xs = true → PyData.eqvAll xs xs = true
  | [], _ => by simp [PyData.eqvAll]
  | x :: xs, h => by
    simp only [isDs, Bool.and_eq_true] at h
    simp only [PyData.eqvAll, Bool.and_eq_true]
    exact ⟨eqv_self x h.1, eqvs_self xs h.2⟩
end
theorem isDs_mem : ∀ {xs : List PyData}, (∀ x ∈ xs, isD x = true) → isDs xs = true
  | [], _ => rfl
  | x :: xs, h => by
    simp only [isDs, Bool.and_eq_true]
    exact ⟨h x List.mem_cons_self, isDs_mem fun y hy => h y (List.mem_cons_of_mem _ hy)⟩
/-- texts that fit, and not deep -/
theorem shaped_list {xs : List PyData} (h : ∀ x ∈ xs, PyData.canLay0 x = true ∧ x.depth ≤ 60) : SeqAt.shaped (.list xs) = true := by
  have h1 : PyData.canLayAll0 xs = true ∧ PyData.depthAll xs ≤ 60 := by
    induction xs with
    | nil => exact ⟨rfl, by simp [PyData.depthAll]⟩
    | cons x xs ih =>
      obtain ⟨a, b⟩ := h x List.mem_cons_self
      obtain ⟨c, d⟩ := ih fun y hy => h y (List.mem_cons_of_mem _ hy)
      refine ⟨by simp [PyData.canLayAll0, a, c], ?_⟩
      simp only [PyData.depthAll]
      omega
  simp [SeqAt.shaped, PyData.canLay0, h1.1, PyData.depth]
  omega
/-- as many as there are: some element of a longer row is not matched -/
theorem pigeon {α : Type} [DecidableEq α] : ∀ {ds rs : List α}, ds.Nodup → rs.length < ds.length → ∃ d ∈ ds, d ∉ rs
  | [], rs, _, h => by simp at h
  | d :: ds, rs, nd, h => by
    by_cases hd : d ∈ rs
    · obtain ⟨x, hx, nx⟩ := pigeon (ds := ds) (rs := rs.erase d) (List.nodup_cons.mp nd).2 (by rw [List.length_erase_of_mem hd]; simp at h; have := List.length_pos_of_mem hd; omega)
      refine ⟨x, List.mem_cons_of_mem _ hx, fun hr => nx ?_⟩
      have ne : x ≠ d := fun e => (List.nodup_cons.mp nd).1 (e ▸ hx)
      exact (List.mem_erase_of_ne ne).mpr hr
    · exact ⟨d, List.mem_cons_self, hd⟩
end PL
end
section
set_option Elab.async false
set_option linter.all false
set_option maxRecDepth 100000
set_option autoImplicit false
set_option maxHeartbeats 4000000
namespace PL
open PySem PySem.Spec PM
/-- a comprehension over the images of a list: filter, then map -/
theorem compL_fm {α : Type} {g : Gm} {mt : M Bool} {me : M PV} {e : En} {h : Hm} {F f : α → PV} {t : α → Bool} : ∀ {l : List α}, (∀ a ∈ l, ∃ e1, g (F a) e = some e1 ∧ mt e1 h = .ok (t a) h ∧ (t a = true → me e1 h = .ok (f a) h)) →
    compL g mt me e (l.map F) h = .ok ((l.filter t).map f) h
  | [], _ => rfl
  | a :: l, k => by
    obtain ⟨e1, g1, t1, m1⟩ := k a List.mem_cons_self
    have ih := compL_fm (e := e) (l := l) fun x hx => k x (List.mem_cons_of_mem _ hx)
    cases ht : t a with
    | true =>
      rw [ht] at t1
      simp only [List.map_cons, compL, g1, t1, m1 ht, ih, bind_ok, if_true, List.filter_cons, ht]
    | false =>
      rw [ht] at t1
      simp [compL, g1, t1, ih, List.filter_cons, ht]
theorem add_lst {xs ys : List PV} {h : Hm} (l : xs.length + ys.length ≤ 1000000) : fAdd (.lst xs) (.lst ys) h = .ok (.lst (xs ++ ys)) h := by
  show (if xs.length + ys.length ≤ 1000000 then Res.ok (PV.lst (xs ++ ys)) h else .stuck) = _
  rw [if_pos l]
theorem add_tup {xs ys : List PV} {h : Hm} (l : xs.length + ys.length ≤ 1000000) : fAdd (.tup xs) (.tup ys) h = .ok (.tup (xs ++ ys)) h := by
  show (if xs.length + ys.length ≤ 1000000 then Res.ok (PV.tup (xs ++ ys)) h else .stuck) = _
  rw [if_pos l]
theorem seq3_ {a b c d : Sm} {e e1 : En} {h h1 : Hm} {r : Fl} (q : sSeq a (sSeq b c) e h = .nx e1 h1) (p : d e1 h1 = r) : sSeq a (sSeq b (sSeq c d)) e h = r := by
  unfold sSeq at q ⊢
  cases ha : a e h with
  | nx e2 h2 =>
    rw [ha] at q
    dsimp only at q ⊢
    cases hb : b e2 h2 with
    | nx e3 h3 =>
      rw [hb] at q
      dsimp only at q ⊢
      rw [q]
      exact p
    | _ => rw [hb] at q; simp at q
  | _ => rw [ha] at q; simp at q
theorem add_int {i j : Int} {h : Hm} : fAdd (.int i) (.int j) h = .ok (.int (i + j)) h := rfl
theorem len_lst {xs : List PV} {h : Hm} : fLen [.lst xs] h = .ok (.int xs.length) h := rfl
theorem len_tup {xs : List PV} {h : Hm} : fLen [.tup xs] h = .ok (.int xs.length) h := rfl
theorem rng1 {ms : M (List PV)} {e : En} {h h1 : Hm} {n : Int} (hm : ms e h = .ok [.int n] h1) (a : -2 ^ 62 ≤ n) (b : n < 2 ^ 62) : mRng ms e h = .ok (.row (rngRow 0 1 n.toNat)) h1 := by
  unfold mRng
  rw [hm]
  show (if -2 ^ 62 ≤ n ∧ n < 2 ^ 62 then Res.ok (Src.row (rngRow 0 1 n.toNat)) h1 else Res.stuck) = _
  rw [if_pos ⟨a, b⟩]
theorem for_ {m : M Src} {g : Gm} {b : Sm} {e : En} {h h1 : Hm} {xs : List PV} {r : Fl} (hm : m e h = .ok (.row xs) h1) (hb : forL g b xs e h1 = r) : sFor m g b e h = r := by
  unfold sFor bindS
  rw [hm]; exact hb
theorem chain_f {f g : PV → PV → Hm → Res PV} {a b c : M PV} {e : En} {h h1 h2 h3 : Hm} {x y : PV} (ha : a e h = .ok x h1) (hb : b e h1 = .ok y h2) (hf : f x y h2 = .ok (.bl false) h3) : mChain f g a b c e h = .ok (.bl false) h3 := by
  unfold mChain
  rw [ha]
  show ((b e h1).bind _) = _
  rw [hb]
  show ((f x y h2).bind _) = _
  rw [hf]
  rfl
theorem chain_t {f g : PV → PV → Hm → Res PV} {a b c : M PV} {e : En} {h h1 h2 h3 h4 : Hm} {x y z : PV} {r : Res PV} (ha : a e h = .ok x h1) (hb : b e h1 = .ok y h2) (hf : f x y h2 = .ok (.bl true) h3) (hc : c e h3 = .ok z h4) (hg : g y z h4 = r) : mChain f g a b c e h = r := by
  unfold mChain
  rw [ha]
  show ((b e h1).bind _) = _
  rw [hb]
  show ((f x y h2).bind _) = _
  rw [hf]
  show ((c e h3).bind _) = _
  rw [hc]
  exact hg
theorem new_ {ms : M (List PV)} {e : En} {h h1 : Hm} {xs : List PV} (hm : ms e h = .ok xs h1) (l : xs.length ≤ 1000000) : mNew ms e h = .ok (.ref h1.length) (h1 ++ [.lst xs]) := by
  unfold mNew
  rw [hm]
  show (if xs.length ≤ 1000000 then _ else _) = _
  rw [if_pos l]
end PL
end
section
set_option Elab.async false
set_option linter.all false
set_option maxRecDepth 100000
set_option maxHeartbeats 0
namespace K01
open PySem PySem.Spec PyProof.Rows L2 PM
def top (i : Nat) : Stmt := PySem.Challenge.pw_resolvestack_k01_numbers_of_releases.main.body.getD i (.Pass ⟨0, 0, 0, 0⟩)
def dOf (i : Nat) (n : Str) : He.DefD := ⟨(n, none), n, n, defArgs (top i), defBody (top i), defScope (top i), [], []⟩
def fn : List He.DefD := [dOf 6 "read_version", dOf 7 "read_number", dOf 8 "read_part", dOf 9 "told_version", dOf 10 "key_of", dOf 11 "order", dOf 12 "in_order", dOf 13 "newest", dOf 14 "is_better", dOf 15 "stepped", dOf 16 "step_between", dOf 17 "is_kept", dOf 18 "groups_kept", dOf 19 "least_step", dOf 21 "_law_dice", dOf 22 "_law_roll", dOf 23 "_law_rounds", dOf 24 "_law_told", dOf 25 "_law_key", dOf 26 "_law_version", dOf 27 "_law_text", dOf 28 "_law_kept", dOf 29 "_law_plain", dOf 30 "law"]
def fa : List He.Fa := [.glo "ResolveFault", .glo "VersionError", .glo "read_version", .glo "read_number", .glo "read_part", .glo "told_version", .glo "key_of", .glo "order", .glo "in_order", .glo "newest", .glo "is_better", .glo "stepped", .glo "step_between", .glo "is_kept", .glo "groups_kept", .glo "least_step", .glo "_law_dice", .glo "_law_roll", .glo "_law_rounds", .glo "_law_told", .glo "_law_key", .glo "_law_version", .glo "_law_text", .glo "_law_kept", .glo "_law_plain", .glo "law", .free "abs", .free "all", .free "any", .free "enumerate", .free "int", .free "isinstance", .free "len", .free "list", .free "max", .free "range", .free "sorted", .free "str", .free "sum", .free "tuple", .exc "ResolveFault", .exc "VersionError", .exm "ResolveFault" "VersionError" false, .exm "VersionError" "VersionError" true]
def tf : List He.Defn := [("read_version", none), ("read_number", none), ("read_part", none), ("key_of", none), ("in_order", none), ("groups_kept", none)]
def tl : List He.Defn := [("_law_plain", none)]
abbrev lamG (i j : Nat) : LamR := (lamsOf (defBody (top i))).getD j ⟨defArgs (top i), .Name "x" ⟨0, 0, 0, 0⟩, defScope (top i)⟩
abbrev c_KINDS_OF_STEPS : PV := .tup [.str "great", .str "small", .str "fix", .str "early"]
abbrev c_SIGNS_OF_PARTS : PV := .str "0123456789abcdefghijklmnopqrstuvwxyzABCDEFGHIJKLMNOPQRSTUVWXYZ-"
def cs : List (Str × PV) := [("KINDS_OF_STEPS", c_KINDS_OF_STEPS), ("SIGNS_OF_PARTS", c_SIGNS_OF_PARTS)]
def excs : List Str := ["ResolveFault", "VersionError"]
abbrev W0 (w : World) (K : PySem.W.Frag) (mg : Str → Option Value) (base : Heap) : Prop := Wd fa fn [] tf tl cs excs w K mg base
def catch_VersionError : Str → Option Bool := fun c => if c = "ResolveFault" then some false else if c = "VersionError" then some true else none
theorem catchx_VersionError {w : World} {K : PySem.W.Frag} {mg : Str → Option Value} {base : Heap} (C : W0 w K mg base) : ∀ c b, catch_VersionError c = some b → PySem.W.exmOne K (.ref (He.ga K c)) (.ref (He.ga K "VersionError")) = some b := by
  intro c b h
  unfold catch_VersionError at h
  by_cases q42 : c = "ResolveFault"
  · rw [if_pos q42] at h; cases h; rw [q42]; exact C.exm 42 rfl
  rw [if_neg q42] at h
  by_cases q43 : c = "VersionError"
  · rw [if_pos q43] at h; cases h; rw [q43]; exact C.exm 43 rfl
  rw [if_neg q43] at h
  cases h
theorem told__law_told {w : World} {X : Cx} (C : W0 w X.K X.mg X.base) : ToldD X "_law_told" "what" "VersionError" "VersionError" ["what"] catch_VersionError := by
  obtain ⟨fd, F⟩ := C.fund 17 (d := dOf 24 "_law_told") rfl rfl rfl rfl
  obtain ⟨oc, od, dV, kV, doc, pm, an, ct, osl, rfl, lk, hcd⟩ := code_of_fund F
  exact ⟨⟨_, _, _, dV, kV, doc, pm, _, ct, oc, an, od, osl, _, _, _, _, _, _, _, _, _, lk, hcd, FunD.bindsN F (fun _ _ _ _ _ _ us hl => match us, hl with | [_], _ => rfl), (⟨rfl, rfl, rfl, by decide +kernel, rfl, by decide +kernel, by decide +kernel⟩ : FnScope ["what"] ["what"] (defScope (top 24))), .inl rfl, rfl, rfl⟩, F.kp, C.glo 19 rfl, C.glo 1 rfl, rfl, catchx_VersionError C, by decide, by decide, by decide, by decide⟩
theorem con_KINDS_OF_STEPS {X : Cx} {w : World} {Tb : TBs} {W : WX} {p : Pos} (C : W0 w X.K X.mg X.base) (hg : Gl X "KINDS_OF_STEPS") : PM X Tb W (.Name "KINDS_OF_STEPS" p) (mC c_KINDS_OF_STEPS) := by
  obtain ⟨v, u, h1, h2, h3⟩ := C.con 0 (d := c_KINDS_OF_STEPS) rfl
  exact pm_glob hg h1 h2 h3
theorem con_SIGNS_OF_PARTS {X : Cx} {w : World} {Tb : TBs} {W : WX} {p : Pos} (C : W0 w X.K X.mg X.base) (hg : Gl X "SIGNS_OF_PARTS") : PM X Tb W (.Name "SIGNS_OF_PARTS" p) (mC c_SIGNS_OF_PARTS) := by
  obtain ⟨v, u, h1, h2, h3⟩ := C.con 1 (d := c_SIGNS_OF_PARTS) rfl
  exact pm_glob hg h1 h2 h3
/-! ### read_number -/
abbrev N_read_number : List Str := ["word", "sign"]
theorem nd_read_number : N_read_number.Nodup := by decide +kernel
def B_read_number : Sm := sSeq (sIf (mOr (mNot (mTst (mChain (pure2 gLe) (pure2 gLe) (mC (.int 1)) (mCall fLen (mCons (mVar 0) mNil)) (mC (.int 6))))) (mOr (mTst (mAnyG [1] excs (mSrc (mVar 0)) (gNm 1) (mYes) (mOp (pure2 gNotIn) (mVar 1) (mC (.str "0123456789"))))) (mAnd (mTst (mOp (pure2 gEq) (mOp fIx (mVar 0) (mC (.int 0))) (mC (.str "0")))) (mTst (mOp (pure2 gNe) (mVar 0) (mC (.str "0"))))))) (sRaise "VersionError") (sNext)) (
  sRet (mCall fInt (mCons (mVar 0) mNil)))
def f_read_number : PF := bodyF 1 2 B_read_number
theorem sc_read_number : FnScope N_read_number ["word"] (defScope (top 7)) := ⟨rfl, rfl, rfl, nd_read_number, rfl, by decide +kernel, by decide +kernel⟩
section
variable {P : Program} {w : World} {K : PySem.W.Frag} {mg : Str → Option Value} {base : Heap}
theorem fo_read_number (C : W0 w K mg base) {fd : FuncData} (F : FunD K "read_number" "read_number" (defArgs (top 7)) (defBody (top 7)) (defScope (top 7)) [] [] (He.ga K "read_number") fd) : FnOk P w K mg base (L2.CX P w) 4 (He.ga K "read_number") fd ["word"] (spP K (TbOf tf tl K) 1 f_read_number) := by
  refine fn_pmT (p := ("read_number", none)) F sc_read_number fun A outer s H E r => ?_
  have tk : Takes (cxOf (L2.CX P w) P w K mg base N_read_number "read_number" (defScope (top 7)) (He.ga K "read_number") (.ref (He.codeOf K ("read_number", none))) A outer s H E) (WF E) := takes_of rfl rfl rfl rfl
  have tL := takes_toL tk
  have fm : Frm (cxOf (L2.CX P w) P w K mg base N_read_number "read_number" (defScope (top 7)) (He.ga K "read_number") (.ref (He.codeOf K ("read_number", none))) A outer s H E) s.heap.objs.size := ⟨⟨_, _, rfl, rfl⟩, rfl⟩
  have hp : PassesOwn (model P w) _ _ _ := passes_of (X := cxOf (L2.CX P w) P w K mg base N_read_number "read_number" (defScope (top 7)) (He.ga K "read_number") (.ref (He.codeOf K ("read_number", none))) A outer s H E) rfl
  exact ((pmb_cons (pms_if (pmt_w (pmw_or (pmt_not (pmt_cm2 (c_le r) (c_le r) pm_int (pc_len rfl (C.free 32 rfl) (pm_var 0)) pm_int)) (pmw_or (pmt_val (pm_gAny (own := [("sign", 1)]) (xs := excs) (Room.mono r (by decide : 0 + 3 ≤ 3)) rfl nd_read_number tL rfl (C.free 28 rfl) (C.tabs 1 rfl) (tb_mem 1 rfl) rfl ⟨(blkOk_by (by with_unfolding_all rfl)), by decide, rfl, rfl⟩ (pmi_val (pm_var 0)) (by decide) C.nosi (fun _ _ _ _ _ _ _ _ _ => (pmg_name 1 nd_read_number)) (fun _ _ _ _ _ _ _ _ _ _ r1 t1 => pmts_nil) (fun _ _ _ _ _ _ _ _ _ _ r1 t1 => (pm_cm (c_notin r1) (pm_var 1) pm_str)) (by intro _; rfl))) (pmw_or1 (pmt_w (pmw_and (pmt_cm (c_eq r) (pm_ix (pm_var 0) pm_int) pm_str) (pmw_and1 (pmt_cm (c_ne r) (pm_var 0) pm_str)))))))) (pmb_one (pms_raiseX rfl tk (C.d.fact 41 rfl) (C.glo 1 rfl) rfl)) pmb_nil) (
  (pmb_one (pms_ret (pc_int rfl (C.free 30 rfl) (pm_var 0)))))) : PMB (cxOf (L2.CX P w) P w K mg base N_read_number "read_number" (defScope (top 7)) (He.ga K "read_number") (.ref (He.codeOf K ("read_number", none))) A outer s H E) (TbOf tf tl K) (WF E) (defBody (top 7)) B_read_number)
theorem ok_read_number (C : W0 w K mg base) : OkD P w K mg base (TbOf tf tl K) 4 "read_number" ["word"] f_read_number := C.okD 1 3 (d := dOf 7 "read_number") rfl rfl rfl rfl rfl (fun fd F => fo_read_number C F) fun _ _ _ _ _ _ us hl => match us, hl with | [_], _ => rfl
end
/-! ### read_part -/
abbrev N_read_part : List Str := ["word", "sign"]
theorem nd_read_part : N_read_part.Nodup := by decide +kernel
def B_read_part : Sm := sSeq (sIf (mOr (mTst (mOp (pure2 gEq) (mVar 0) (mC (.str "")))) (mTst (mAnyG [1] excs (mSrc (mVar 0)) (gNm 1) (mYes) (mOp (pure2 gNotIn) (mVar 1) (mC c_SIGNS_OF_PARTS))))) (sRaise "VersionError") (sNext)) (
  sRet (mIf (mTst (mAllG [1] excs (mSrc (mVar 0)) (gNm 1) (mYes) (mOp (pure2 gIn) (mVar 1) (mC (.str "0123456789"))))) (mCall f_read_number (mCons (mVar 0) (mNil))) (mVar 0)))
def f_read_part : PF := bodyF 1 2 B_read_part
theorem sc_read_part : FnScope N_read_part ["word"] (defScope (top 8)) := ⟨rfl, rfl, rfl, nd_read_part, rfl, by decide +kernel, by decide +kernel⟩
section
variable {P : Program} {w : World} {K : PySem.W.Frag} {mg : Str → Option Value} {base : Heap}
theorem fo_read_part (C : W0 w K mg base) {fd : FuncData} (F : FunD K "read_part" "read_part" (defArgs (top 8)) (defBody (top 8)) (defScope (top 8)) [] [] (He.ga K "read_part") fd) : FnOk P w K mg base (L2.CX P w) 5 (He.ga K "read_part") fd ["word"] (spP K (TbOf tf tl K) 1 f_read_part) := by
  refine fn_pmT (p := ("read_part", none)) F sc_read_part fun A outer s H E r => ?_
  have tk : Takes (cxOf (L2.CX P w) P w K mg base N_read_part "read_part" (defScope (top 8)) (He.ga K "read_part") (.ref (He.codeOf K ("read_part", none))) A outer s H E) (WF E) := takes_of rfl rfl rfl rfl
  have tL := takes_toL tk
  have fm : Frm (cxOf (L2.CX P w) P w K mg base N_read_part "read_part" (defScope (top 8)) (He.ga K "read_part") (.ref (He.codeOf K ("read_part", none))) A outer s H E) s.heap.objs.size := ⟨⟨_, _, rfl, rfl⟩, rfl⟩
  have hp : PassesOwn (model P w) _ _ _ := passes_of (X := cxOf (L2.CX P w) P w K mg base N_read_part "read_part" (defScope (top 8)) (He.ga K "read_part") (.ref (He.codeOf K ("read_part", none))) A outer s H E) rfl
  exact ((pmb_cons (pms_if (pmt_w (pmw_or (pmt_cm (c_eq r) (pm_var 0) pm_str) (pmw_or1 (pmt_val (pm_gAny (own := [("sign", 1)]) (xs := excs) (Room.mono r (by decide : 1 + 3 ≤ 4)) rfl nd_read_part tL rfl (C.free 28 rfl) (C.tabs 2 rfl) (tb_mem 2 rfl) rfl ⟨(blkOk_by (by with_unfolding_all rfl)), by decide, rfl, rfl⟩ (pmi_val (pm_var 0)) (by decide) C.nosi (fun _ _ _ _ _ _ _ _ _ => (pmg_name 1 nd_read_part)) (fun _ _ _ _ _ _ _ _ _ _ r1 t1 => pmts_nil) (fun _ _ _ _ _ _ _ _ _ _ r1 t1 => (pm_cm (c_notin r1) (pm_var 1) (con_SIGNS_OF_PARTS C rfl))) (by intro _; rfl)))))) (pmb_one (pms_raiseX rfl tk (C.d.fact 41 rfl) (C.glo 1 rfl) rfl)) pmb_nil) (
  (pmb_one (pms_ret (pm_ifexp (pmt_val (pm_gAll (own := [("sign", 1)]) (xs := excs) (Room.mono r (by decide : 1 + 3 ≤ 4)) rfl nd_read_part tL rfl (C.free 27 rfl) (C.tabs 2 rfl) (tb_mem 2 rfl) rfl ⟨(blkOk_by (by with_unfolding_all rfl)), by decide, rfl, rfl⟩ (pmi_val (pm_var 0)) (by decide) C.nosi (fun _ _ _ _ _ _ _ _ _ => (pmg_name 1 nd_read_part)) (fun _ _ _ _ _ _ _ _ _ _ r1 t1 => pmts_nil) (fun _ _ _ _ _ _ _ _ _ _ r1 t1 => (pm_cm (c_in r1) (pm_var 1) pm_str)) (by intro _; rfl))) (pm_callD (ok_read_number C) r (by decide) (takesL_pass tL) rfl (pma_cons (pm_var 0) pma_nil) (len_cons len_nil)) (pm_var 0)))))) : PMB (cxOf (L2.CX P w) P w K mg base N_read_part "read_part" (defScope (top 8)) (He.ga K "read_part") (.ref (He.codeOf K ("read_part", none))) A outer s H E) (TbOf tf tl K) (WF E) (defBody (top 8)) B_read_part)
theorem ok_read_part (C : W0 w K mg base) : OkD P w K mg base (TbOf tf tl K) 5 "read_part" ["word"] f_read_part := C.okD 2 4 (d := dOf 8 "read_part") rfl rfl rfl rfl rfl (fun fd F => fo_read_part C F) fun _ _ _ _ _ _ us hl => match us, hl with | [_], _ => rfl
end
/-! ### told_version -/
abbrev N_told_version : List Str := ["version", "early", "part"]
theorem nd_told_version : N_told_version.Nodup := by decide +kernel
def B_told_version : Sm := sSeq (sSet 1 (mIf (mTst (mOp (pure2 gNe) (mOp fIx (mVar 0) (mC (.int 3))) (mTup (mNil)))) (mOp (fAdd) (mC (.str "-")) (mMeth "str" mtJoin (mC (.str ".")) (mCons (mLc [2] (mSrc (mOp fIx (mVar 0) (mC (.int 3)))) (gNm 2) (mYes) (mCall fStr (mCons (mVar 2) mNil))) (mNil)))) (mC (.str "")))) (
  sRet (mOp (fAdd) (mJs [mUn1 fFmt (mOp fIx (mVar 0) (mC (.int 0))), mC (.str "."), mUn1 fFmt (mOp fIx (mVar 0) (mC (.int 1))), mC (.str "."), mUn1 fFmt (mOp fIx (mVar 0) (mC (.int 2)))] Str.empty) (mVar 1)))
def f_told_version : PF := bodyF 1 3 B_told_version
theorem sc_told_version : FnScope N_told_version ["version"] (defScope (top 9)) := ⟨rfl, rfl, rfl, nd_told_version, rfl, by decide +kernel, by decide +kernel⟩
section
variable {P : Program} {w : World} {K : PySem.W.Frag} {mg : Str → Option Value} {base : Heap}
theorem fo_told_version (C : W0 w K mg base) {fd : FuncData} (F : FunD K "told_version" "told_version" (defArgs (top 9)) (defBody (top 9)) (defScope (top 9)) [] [] (He.ga K "told_version") fd) : FnOk P w K mg base (L2.CX P w) 1 (He.ga K "told_version") fd ["version"] (spP K (TbOf tf tl K) 1 f_told_version) := by
  refine fn_pmT (p := ("told_version", none)) F sc_told_version fun A outer s H E r => ?_
  have tk : Takes (cxOf (L2.CX P w) P w K mg base N_told_version "told_version" (defScope (top 9)) (He.ga K "told_version") (.ref (He.codeOf K ("told_version", none))) A outer s H E) (WF E) := takes_of rfl rfl rfl rfl
  have tL := takes_toL tk
  have fm : Frm (cxOf (L2.CX P w) P w K mg base N_told_version "told_version" (defScope (top 9)) (He.ga K "told_version") (.ref (He.codeOf K ("told_version", none))) A outer s H E) s.heap.objs.size := ⟨⟨_, _, rfl, rfl⟩, rfl⟩
  have hp : PassesOwn (model P w) _ _ _ := passes_of (X := cxOf (L2.CX P w) P w K mg base N_told_version "told_version" (defScope (top 9)) (He.ga K "told_version") (.ref (He.codeOf K ("told_version", none))) A outer s H E) rfl
  exact ((pmb_cons (pms_set 1 (pm_ifexp (pmt_cm (c_ne r) (pm_ix (pm_var 0) pm_int) (pm_tup pma_nil)) (pm_add pm_str (met_join pm_str (pma_cons (pm_lc (own := [("part", 2)]) rfl nd_told_version (pmi_val (pm_ix (pm_var 0) pm_int)) (blkOk_by (by with_unfolding_all rfl)) tL fm (by decide) (fun _ _ _ _ _ _ => (pmg_name 2 nd_told_version)) (fun _ _ _ _ _ _ _ t1 => pmts_nil) (fun _ _ _ _ _ _ _ t1 => (pc_str rfl (C.free 37 rfl) (pm_var 2)))) pma_nil))) pm_str) nd_told_version) (
  (pmb_one (pms_ret (pm_add (pm_joined (.cons (pm_fmt (pm_ix (pm_var 0) pm_int)) (.cons pm_str (.cons (pm_fmt (pm_ix (pm_var 0) pm_int)) (.cons pm_str (.cons (pm_fmt (pm_ix (pm_var 0) pm_int)) .nil)))))) (pm_var 1)))))) : PMB (cxOf (L2.CX P w) P w K mg base N_told_version "told_version" (defScope (top 9)) (He.ga K "told_version") (.ref (He.codeOf K ("told_version", none))) A outer s H E) (TbOf tf tl K) (WF E) (defBody (top 9)) B_told_version)
theorem ok_told_version (C : W0 w K mg base) : OkD P w K mg base (TbOf tf tl K) 1 "told_version" ["version"] f_told_version := C.okD 3 5 (d := dOf 9 "told_version") rfl rfl rfl rfl rfl (fun fd F => fo_told_version C F) fun _ _ _ _ _ _ us hl => match us, hl with | [_], _ => rfl
end
/-! ### key_of -/
abbrev N_key_of : List Str := ["version", "parts", "part"]
theorem nd_key_of : N_key_of.Nodup := by decide +kernel
def B_key_of : Sm := sSeq (sSet 1 (mGenL [2] excs finTup (mSrc (mOp fIx (mVar 0) (mC (.int 3)))) (gNm 2) (mYes) (mIf (mTst (mUn1 (fIsi "int") (mVar 2))) (mTup (mCons (mC (.int 0)) (mCons (mVar 2) (mCons (mC (.str "")) (mNil))))) (mTup (mCons (mC (.int 1)) (mCons (mC (.int 0)) (mCons (mVar 2) (mNil)))))))) (
  sRet (mTup (mCons (mOp fIx (mVar 0) (mC (.int 0))) (mCons (mOp fIx (mVar 0) (mC (.int 1))) (mCons (mOp fIx (mVar 0) (mC (.int 2))) (mCons (mIf (mTst (mOp (pure2 gEq) (mOp fIx (mVar 0) (mC (.int 3))) (mTup (mNil)))) (mTup (mCons (mC (.int 1)) (mNil))) (mTup (mCons (mC (.int 0)) (mCons (mVar 1) (mNil))))) (mNil)))))))
def f_key_of : PF := bodyF 1 3 B_key_of
theorem sc_key_of : FnScope N_key_of ["version"] (defScope (top 10)) := ⟨rfl, rfl, rfl, nd_key_of, rfl, by decide +kernel, by decide +kernel⟩
section
variable {P : Program} {w : World} {K : PySem.W.Frag} {mg : Str → Option Value} {base : Heap}
theorem fo_key_of (C : W0 w K mg base) {fd : FuncData} (F : FunD K "key_of" "key_of" (defArgs (top 10)) (defBody (top 10)) (defScope (top 10)) [] [] (He.ga K "key_of") fd) : FnOk P w K mg base (L2.CX P w) 6 (He.ga K "key_of") fd ["version"] (spP K (TbOf tf tl K) 1 f_key_of) := by
  refine fn_pmT (p := ("key_of", none)) F sc_key_of fun A outer s H E r => ?_
  have tk : Takes (cxOf (L2.CX P w) P w K mg base N_key_of "key_of" (defScope (top 10)) (He.ga K "key_of") (.ref (He.codeOf K ("key_of", none))) A outer s H E) (WF E) := takes_of rfl rfl rfl rfl
  have tL := takes_toL tk
  have fm : Frm (cxOf (L2.CX P w) P w K mg base N_key_of "key_of" (defScope (top 10)) (He.ga K "key_of") (.ref (He.codeOf K ("key_of", none))) A outer s H E) s.heap.objs.size := ⟨⟨_, _, rfl, rfl⟩, rfl⟩
  have hp : PassesOwn (model P w) _ _ _ := passes_of (X := cxOf (L2.CX P w) P w K mg base N_key_of "key_of" (defScope (top 10)) (He.ga K "key_of") (.ref (He.codeOf K ("key_of", none))) A outer s H E) rfl
  exact ((pmb_cons (pms_set 1 (pm_gTup (own := [("part", 2)]) (xs := excs) (Room.mono r (by decide : 0 + 5 ≤ 5)) rfl nd_key_of tL rfl (C.free 39 rfl) (C.tabs 3 rfl) (tb_mem 3 rfl) rfl ⟨(blkOk_by (by with_unfolding_all rfl)), by decide, rfl, rfl⟩ (pmi_val (pm_ix (pm_var 0) pm_int)) (by decide) C.nosi (fun _ _ _ _ _ _ _ _ _ => (pmg_name 2 nd_key_of)) (fun _ _ _ _ _ _ _ _ _ _ r1 t1 => pmts_nil) (fun _ _ _ _ _ _ _ _ _ _ r1 t1 => (pm_ifexp (pmt_val (pm_isi (T := "int") rfl (C.free 31 rfl) b_isinstance (pm_var 2) rfl (C.free 30 rfl) b_int)) (pm_tup (pma_cons pm_int (pma_cons (pm_var 2) (pma_cons pm_str pma_nil)))) (pm_tup (pma_cons pm_int (pma_cons pm_int (pma_cons (pm_var 2) pma_nil)))))) (by intro _; rfl)) nd_key_of) (
  (pmb_one (pms_ret (pm_tup (pma_cons (pm_ix (pm_var 0) pm_int) (pma_cons (pm_ix (pm_var 0) pm_int) (pma_cons (pm_ix (pm_var 0) pm_int) (pma_cons (pm_ifexp (pmt_cm (c_eq r) (pm_ix (pm_var 0) pm_int) (pm_tup pma_nil)) (pm_tup (pma_cons pm_int pma_nil)) (pm_tup (pma_cons pm_int (pma_cons (pm_var 1) pma_nil)))) pma_nil))))))))) : PMB (cxOf (L2.CX P w) P w K mg base N_key_of "key_of" (defScope (top 10)) (He.ga K "key_of") (.ref (He.codeOf K ("key_of", none))) A outer s H E) (TbOf tf tl K) (WF E) (defBody (top 10)) B_key_of)
theorem ok_key_of (C : W0 w K mg base) : OkD P w K mg base (TbOf tf tl K) 6 "key_of" ["version"] f_key_of := C.okD 4 6 (d := dOf 10 "key_of") rfl rfl rfl rfl rfl (fun fd F => fo_key_of C F) fun _ _ _ _ _ _ us hl => match us, hl with | [_], _ => rfl
end
/-! ### order -/
abbrev N_order : List Str := ["one", "other", "mine", "theirs"]
theorem nd_order : N_order.Nodup := by decide +kernel
def B_order : Sm := sSeq (sPar2 2 3 (mCons (mCall f_key_of (mCons (mVar 0) (mNil))) (mCons (mCall f_key_of (mCons (mVar 1) (mNil))) (mNil)))) (
  sRet (mOp (pure2 gSubA) (mOp (pure2 gGt) (mVar 2) (mVar 3)) (mOp (pure2 gLt) (mVar 2) (mVar 3))))
def f_order : PF := bodyF 2 4 B_order
theorem sc_order : FnScope N_order ["one", "other"] (defScope (top 11)) := ⟨rfl, rfl, rfl, nd_order, rfl, by decide +kernel, by decide +kernel⟩
section
variable {P : Program} {w : World} {K : PySem.W.Frag} {mg : Str → Option Value} {base : Heap}
theorem fo_order (C : W0 w K mg base) {fd : FuncData} (F : FunD K "order" "order" (defArgs (top 11)) (defBody (top 11)) (defScope (top 11)) [] [] (He.ga K "order") fd) : FnOk P w K mg base (L2.CX P w) 7 (He.ga K "order") fd ["one", "other"] (spP K (TbOf tf tl K) 2 f_order) := by
  refine fn_pmT (p := ("order", none)) F sc_order fun A outer s H E r => ?_
  have tk : Takes (cxOf (L2.CX P w) P w K mg base N_order "order" (defScope (top 11)) (He.ga K "order") (.ref (He.codeOf K ("order", none))) A outer s H E) (WF E) := takes_of rfl rfl rfl rfl
  have tL := takes_toL tk
  have fm : Frm (cxOf (L2.CX P w) P w K mg base N_order "order" (defScope (top 11)) (He.ga K "order") (.ref (He.codeOf K ("order", none))) A outer s H E) s.heap.objs.size := ⟨⟨_, _, rfl, rfl⟩, rfl⟩
  have hp : PassesOwn (model P w) _ _ _ := passes_of (X := cxOf (L2.CX P w) P w K mg base N_order "order" (defScope (top 11)) (He.ga K "order") (.ref (He.codeOf K ("order", none))) A outer s H E) rfl
  exact ((pmb_cons (pms_par2 2 3 rfl nd_order (pma_cons (pm_callD (ok_key_of C) r (by decide) (takesL_pass tL) rfl (pma_cons (pm_var 0) pma_nil) (len_cons len_nil)) (pma_cons (pm_callD (ok_key_of C) r (by decide) (takesL_pass tL) rfl (pma_cons (pm_var 1) pma_nil) (len_cons len_nil)) pma_nil))) (
  (pmb_one (pms_ret (pm_subA (pm_cm (c_gt r) (pm_var 2) (pm_var 3)) (pm_cm (c_lt r) (pm_var 2) (pm_var 3))))))) : PMB (cxOf (L2.CX P w) P w K mg base N_order "order" (defScope (top 11)) (He.ga K "order") (.ref (He.codeOf K ("order", none))) A outer s H E) (TbOf tf tl K) (WF E) (defBody (top 11)) B_order)
theorem ok_order (C : W0 w K mg base) : OkD P w K mg base (TbOf tf tl K) 7 "order" ["one", "other"] f_order := C.okD 5 7 (d := dOf 11 "order") rfl rfl rfl rfl rfl (fun fd F => fo_order C F) fun _ _ _ _ _ _ us hl => match us, hl with | [_, _], _ => rfl
end
/-! ### in_order -/
abbrev N_in_order : List Str := ["versions", "rows", "place", "version", "key"]
theorem nd_in_order : N_in_order.Nodup := by decide +kernel
def B_in_order : Sm := sSeq (sSet 1 (mGenL [2, 3] excs finSort (mEnum (mVar 0)) (gTp 2 (gsCons (gNm 2) (gsCons (gNm 3) (gsNil)))) (mYes) (mTup (mCons (mCall f_key_of (mCons (mVar 3) (mNil))) (mCons (mVar 2) (mNil)))))) (
  sRet (mGenL [4, 2] excs finTup (mSrc (mVar 1)) (gTp 2 (gsCons (gNm 4) (gsCons (gNm 2) (gsNil)))) (mYes) (mOp fIx (mVar 0) (mVar 2))))
def f_in_order : PF := bodyF 1 5 B_in_order
theorem sc_in_order : FnScope N_in_order ["versions"] (defScope (top 12)) := ⟨rfl, rfl, rfl, nd_in_order, rfl, by decide +kernel, by decide +kernel⟩
section
variable {P : Program} {w : World} {K : PySem.W.Frag} {mg : Str → Option Value} {base : Heap}
theorem fo_in_order (C : W0 w K mg base) {fd : FuncData} (F : FunD K "in_order" "in_order" (defArgs (top 12)) (defBody (top 12)) (defScope (top 12)) [] [] (He.ga K "in_order") fd) : FnOk P w K mg base (L2.CX P w) 12 (He.ga K "in_order") fd ["versions"] (spP K (TbOf tf tl K) 1 f_in_order) := by
  refine fn_pmT (p := ("in_order", none)) F sc_in_order fun A outer s H E r => ?_
  have tk : Takes (cxOf (L2.CX P w) P w K mg base N_in_order "in_order" (defScope (top 12)) (He.ga K "in_order") (.ref (He.codeOf K ("in_order", none))) A outer s H E) (WF E) := takes_of rfl rfl rfl rfl
  have tL := takes_toL tk
  have fm : Frm (cxOf (L2.CX P w) P w K mg base N_in_order "in_order" (defScope (top 12)) (He.ga K "in_order") (.ref (He.codeOf K ("in_order", none))) A outer s H E) s.heap.objs.size := ⟨⟨_, _, rfl, rfl⟩, rfl⟩
  have hp : PassesOwn (model P w) _ _ _ := passes_of (X := cxOf (L2.CX P w) P w K mg base N_in_order "in_order" (defScope (top 12)) (He.ga K "in_order") (.ref (He.codeOf K ("in_order", none))) A outer s H E) rfl
  exact ((pmb_cons (pms_set 1 (pm_gSorted (own := [("place", 2), ("version", 3)]) (xs := excs) (Room.mono r (by decide : 6 + 5 ≤ 11)) rfl nd_in_order tL rfl (C.free 36 rfl) (C.tabs 4 rfl) (tb_mem 4 rfl) rfl ⟨(blkOk_by (by with_unfolding_all rfl)), by decide, rfl, rfl⟩ (pmi_enum rfl (C.free 29 rfl) (pm_var 0)) (by decide) C.nosi (fun _ _ _ _ _ _ _ _ _ => (pmg_tup rfl (pmgs_cons (pmg_name 2 nd_in_order) (pmgs_cons (pmg_name 3 nd_in_order) pmgs_nil)))) (fun _ _ _ _ _ _ _ _ _ _ r1 t1 => pmts_nil) (fun _ _ _ _ _ _ _ _ _ _ r1 t1 => (pm_tup (pma_cons (pm_callD (ok_key_of C) r1 (by decide) (takesL_pass t1) rfl (pma_cons (pm_var 3) pma_nil) (len_cons len_nil)) (pma_cons (pm_var 2) pma_nil)))) (by intro _; rfl)) nd_in_order) (
  (pmb_one (pms_ret (pm_gTup (own := [("key", 4), ("place", 2)]) (xs := excs) (Room.mono r (by decide : 6 + 5 ≤ 11)) rfl nd_in_order tL rfl (C.free 39 rfl) (C.tabs 4 rfl) (tb_mem 4 rfl) rfl ⟨(blkOk_by (by with_unfolding_all rfl)), by decide, rfl, rfl⟩ (pmi_val (pm_var 1)) (by decide) C.nosi (fun _ _ _ _ _ _ _ _ _ => (pmg_tup rfl (pmgs_cons (pmg_name 4 nd_in_order) (pmgs_cons (pmg_name 2 nd_in_order) pmgs_nil)))) (fun _ _ _ _ _ _ _ _ _ _ r1 t1 => pmts_nil) (fun _ _ _ _ _ _ _ _ _ _ r1 t1 => (pm_ix (pm_var 0) (pm_var 2))) (by intro _; rfl)))))) : PMB (cxOf (L2.CX P w) P w K mg base N_in_order "in_order" (defScope (top 12)) (He.ga K "in_order") (.ref (He.codeOf K ("in_order", none))) A outer s H E) (TbOf tf tl K) (WF E) (defBody (top 12)) B_in_order)
theorem ok_in_order (C : W0 w K mg base) : OkD P w K mg base (TbOf tf tl K) 12 "in_order" ["versions"] f_in_order := C.okD 6 8 (d := dOf 12 "in_order") rfl rfl rfl rfl rfl (fun fd F => fo_in_order C F) fun _ _ _ _ _ _ us hl => match us, hl with | [_], _ => rfl
end
/-! ### is_better -/
abbrev N_is_better : List Str := ["one", "other"]
theorem nd_is_better : N_is_better.Nodup := by decide +kernel
def B_is_better : Sm := sSeq (sIf (mTst (mOp (pure2 gNe) (mOp (pure2 gEq) (mOp fIx (mVar 0) (mC (.int 3))) (mTup (mNil))) (mOp (pure2 gEq) (mOp fIx (mVar 1) (mC (.int 3))) (mTup (mNil))))) (sRet (mOp (pure2 gEq) (mOp fIx (mVar 0) (mC (.int 3))) (mTup (mNil)))) (sNext)) (
  sRet (mOp (pure2 gGt) (mCall f_order (mCons (mVar 0) (mCons (mVar 1) (mNil)))) (mC (.int 0))))
def f_is_better : PF := bodyF 2 2 B_is_better
theorem sc_is_better : FnScope N_is_better ["one", "other"] (defScope (top 14)) := ⟨rfl, rfl, rfl, nd_is_better, rfl, by decide +kernel, by decide +kernel⟩
section
variable {P : Program} {w : World} {K : PySem.W.Frag} {mg : Str → Option Value} {base : Heap}
theorem fo_is_better (C : W0 w K mg base) {fd : FuncData} (F : FunD K "is_better" "is_better" (defArgs (top 14)) (defBody (top 14)) (defScope (top 14)) [] [] (He.ga K "is_better") fd) : FnOk P w K mg base (L2.CX P w) 8 (He.ga K "is_better") fd ["one", "other"] (spP K (TbOf tf tl K) 2 f_is_better) := by
  refine fn_pmT (p := ("is_better", none)) F sc_is_better fun A outer s H E r => ?_
  have tk : Takes (cxOf (L2.CX P w) P w K mg base N_is_better "is_better" (defScope (top 14)) (He.ga K "is_better") (.ref (He.codeOf K ("is_better", none))) A outer s H E) (WF E) := takes_of rfl rfl rfl rfl
  have tL := takes_toL tk
  have fm : Frm (cxOf (L2.CX P w) P w K mg base N_is_better "is_better" (defScope (top 14)) (He.ga K "is_better") (.ref (He.codeOf K ("is_better", none))) A outer s H E) s.heap.objs.size := ⟨⟨_, _, rfl, rfl⟩, rfl⟩
  have hp : PassesOwn (model P w) _ _ _ := passes_of (X := cxOf (L2.CX P w) P w K mg base N_is_better "is_better" (defScope (top 14)) (He.ga K "is_better") (.ref (He.codeOf K ("is_better", none))) A outer s H E) rfl
  exact ((pmb_cons (pms_if (pmt_cm (c_ne r) (pm_cm (c_eq r) (pm_ix (pm_var 0) pm_int) (pm_tup pma_nil)) (pm_cm (c_eq r) (pm_ix (pm_var 1) pm_int) (pm_tup pma_nil))) (pmb_one (pms_ret (pm_cm (c_eq r) (pm_ix (pm_var 0) pm_int) (pm_tup pma_nil)))) pmb_nil) (
  (pmb_one (pms_ret (pm_cm (c_gt r) (pm_callD (ok_order C) r (by decide) (takesL_pass tL) rfl (pma_cons (pm_var 0) (pma_cons (pm_var 1) pma_nil)) (len_cons (len_cons len_nil))) pm_int))))) : PMB (cxOf (L2.CX P w) P w K mg base N_is_better "is_better" (defScope (top 14)) (He.ga K "is_better") (.ref (He.codeOf K ("is_better", none))) A outer s H E) (TbOf tf tl K) (WF E) (defBody (top 14)) B_is_better)
theorem ok_is_better (C : W0 w K mg base) : OkD P w K mg base (TbOf tf tl K) 8 "is_better" ["one", "other"] f_is_better := C.okD 8 10 (d := dOf 14 "is_better") rfl rfl rfl rfl rfl (fun fd F => fo_is_better C F) fun _ _ _ _ _ _ us hl => match us, hl with | [_, _], _ => rfl
end
/-! ### stepped -/
abbrev N_stepped : List Str := ["version", "kind", "great", "small", "fix", "early", "is_it"]
theorem nd_stepped : N_stepped.Nodup := by decide +kernel
def B_stepped : Sm := sSeq (sAsg (gTp 4 (gsCons (gNm 2) (gsCons (gNm 3) (gsCons (gNm 4) (gsCons (gNm 5) (gsNil)))))) (mVar 0)) (
  sSeq (sIf (mTst (mOp (pure2 gEq) (mVar 1) (mC (.str "great")))) (sSeq (sSet 6 (mAndV (mOp (pure2 gNe) (mVar 5) (mTup (mNil))) (mAndV (mOp (pure2 gEq) (mVar 3) (mC (.int 0))) (mOp (pure2 gEq) (mVar 4) (mC (.int 0)))))) (
  sRet (mIf (mTst (mVar 6)) (mTup (mCons (mVar 2) (mCons (mC (.int 0)) (mCons (mC (.int 0)) (mCons (mTup (mNil)) (mNil)))))) (mTup (mCons (mOp (fAdd) (mVar 2) (mC (.int 1))) (mCons (mC (.int 0)) (mCons (mC (.int 0)) (mCons (mTup (mNil)) (mNil))))))))) (sNext)) (
  sSeq (sIf (mTst (mOp (pure2 gEq) (mVar 1) (mC (.str "small")))) (sRet (mIf (mAnd (mTst (mOp (pure2 gNe) (mVar 5) (mTup (mNil)))) (mTst (mOp (pure2 gEq) (mVar 4) (mC (.int 0))))) (mTup (mCons (mVar 2) (mCons (mVar 3) (mCons (mC (.int 0)) (mCons (mTup (mNil)) (mNil)))))) (mTup (mCons (mVar 2) (mCons (mOp (fAdd) (mVar 3) (mC (.int 1))) (mCons (mC (.int 0)) (mCons (mTup (mNil)) (mNil)))))))) (sNext)) (
  sSeq (sIf (mTst (mOp (pure2 gEq) (mVar 1) (mC (.str "fix")))) (sRet (mIf (mTst (mOp (pure2 gNe) (mVar 5) (mTup (mNil)))) (mTup (mCons (mVar 2) (mCons (mVar 3) (mCons (mVar 4) (mCons (mTup (mNil)) (mNil)))))) (mTup (mCons (mVar 2) (mCons (mVar 3) (mCons (mOp (fAdd) (mVar 4) (mC (.int 1))) (mCons (mTup (mNil)) (mNil)))))))) (sNext)) (
  sSeq (sIf (mTst (mOp (pure2 gNe) (mVar 1) (mC (.str "early")))) (sRaise "VersionError") (sNext)) (
  sSeq (sIf (mTst (mOp (pure2 gEq) (mVar 5) (mTup (mNil)))) (sRet (mTup (mCons (mVar 2) (mCons (mVar 3) (mCons (mOp (fAdd) (mVar 4) (mC (.int 1))) (mCons (mTup (mCons (mC (.int 0)) (mNil))) (mNil))))))) (sNext)) (
  sSeq (sIf (mTst (mUn1 (fIsi "int") (mOp fIx (mVar 5) (mUn gNeg (mC (.int 1)))))) (sRet (mTup (mCons (mVar 2) (mCons (mVar 3) (mCons (mVar 4) (mCons (mOp (fAdd) (mSl (mVar 5) (mNoPart) (mPart (mUn gNeg (mC (.int 1))))) (mTup (mCons (mOp (fAdd) (mOp fIx (mVar 5) (mUn gNeg (mC (.int 1)))) (mC (.int 1))) (mNil)))) (mNil))))))) (sNext)) (
  sRet (mTup (mCons (mVar 2) (mCons (mVar 3) (mCons (mVar 4) (mCons (mOp (fAdd) (mVar 5) (mTup (mCons (mC (.int 0)) (mNil)))) (mNil)))))))))))))
def f_stepped : PF := bodyF 2 7 B_stepped
theorem sc_stepped : FnScope N_stepped ["version", "kind"] (defScope (top 15)) := ⟨rfl, rfl, rfl, nd_stepped, rfl, by decide +kernel, by decide +kernel⟩
section
variable {P : Program} {w : World} {K : PySem.W.Frag} {mg : Str → Option Value} {base : Heap}
theorem fo_stepped (C : W0 w K mg base) {fd : FuncData} (F : FunD K "stepped" "stepped" (defArgs (top 15)) (defBody (top 15)) (defScope (top 15)) [] [] (He.ga K "stepped") fd) : FnOk P w K mg base (L2.CX P w) 1 (He.ga K "stepped") fd ["version", "kind"] (spP K (TbOf tf tl K) 2 f_stepped) := by
  refine fn_pmT (p := ("stepped", none)) F sc_stepped fun A outer s H E r => ?_
  have tk : Takes (cxOf (L2.CX P w) P w K mg base N_stepped "stepped" (defScope (top 15)) (He.ga K "stepped") (.ref (He.codeOf K ("stepped", none))) A outer s H E) (WF E) := takes_of rfl rfl rfl rfl
  have tL := takes_toL tk
  have fm : Frm (cxOf (L2.CX P w) P w K mg base N_stepped "stepped" (defScope (top 15)) (He.ga K "stepped") (.ref (He.codeOf K ("stepped", none))) A outer s H E) s.heap.objs.size := ⟨⟨_, _, rfl, rfl⟩, rfl⟩
  have hp : PassesOwn (model P w) _ _ _ := passes_of (X := cxOf (L2.CX P w) P w K mg base N_stepped "stepped" (defScope (top 15)) (He.ga K "stepped") (.ref (He.codeOf K ("stepped", none))) A outer s H E) rfl
  exact ((pmb_cons (pms_asg (pmg_tup rfl (pmgs_cons (pmg_name 2 nd_stepped) (pmgs_cons (pmg_name 3 nd_stepped) (pmgs_cons (pmg_name 4 nd_stepped) (pmgs_cons (pmg_name 5 nd_stepped) pmgs_nil))))) (pm_var 0)) (
  (pmb_cons (pms_if (pmt_cm (c_eq r) (pm_var 1) pm_str) (pmb_cons (pms_set 6 (pm_and (pm_cm (c_ne r) (pm_var 5) (pm_tup pma_nil)) (pm_and (pm_cm (c_eq r) (pm_var 3) pm_int) (pm_one (pm_cm (c_eq r) (pm_var 4) pm_int)))) nd_stepped) (
  (pmb_one (pms_ret (pm_ifexp (pmt_val (pm_var 6)) (pm_tup (pma_cons (pm_var 2) (pma_cons pm_int (pma_cons pm_int (pma_cons (pm_tup pma_nil) pma_nil))))) (pm_tup (pma_cons (pm_add (pm_var 2) pm_int) (pma_cons pm_int (pma_cons pm_int (pma_cons (pm_tup pma_nil) pma_nil)))))))))) pmb_nil) (
  (pmb_cons (pms_if (pmt_cm (c_eq r) (pm_var 1) pm_str) (pmb_one (pms_ret (pm_ifexp (pmt_w (pmw_and (pmt_cm (c_ne r) (pm_var 5) (pm_tup pma_nil)) (pmw_and1 (pmt_cm (c_eq r) (pm_var 4) pm_int)))) (pm_tup (pma_cons (pm_var 2) (pma_cons (pm_var 3) (pma_cons pm_int (pma_cons (pm_tup pma_nil) pma_nil))))) (pm_tup (pma_cons (pm_var 2) (pma_cons (pm_add (pm_var 3) pm_int) (pma_cons pm_int (pma_cons (pm_tup pma_nil) pma_nil)))))))) pmb_nil) (
  (pmb_cons (pms_if (pmt_cm (c_eq r) (pm_var 1) pm_str) (pmb_one (pms_ret (pm_ifexp (pmt_cm (c_ne r) (pm_var 5) (pm_tup pma_nil)) (pm_tup (pma_cons (pm_var 2) (pma_cons (pm_var 3) (pma_cons (pm_var 4) (pma_cons (pm_tup pma_nil) pma_nil))))) (pm_tup (pma_cons (pm_var 2) (pma_cons (pm_var 3) (pma_cons (pm_add (pm_var 4) pm_int) (pma_cons (pm_tup pma_nil) pma_nil)))))))) pmb_nil) (
  (pmb_cons (pms_if (pmt_cm (c_ne r) (pm_var 1) pm_str) (pmb_one (pms_raiseX rfl tk (C.d.fact 41 rfl) (C.glo 1 rfl) rfl)) pmb_nil) (
  (pmb_cons (pms_if (pmt_cm (c_eq r) (pm_var 5) (pm_tup pma_nil)) (pmb_one (pms_ret (pm_tup (pma_cons (pm_var 2) (pma_cons (pm_var 3) (pma_cons (pm_add (pm_var 4) pm_int) (pma_cons (pm_tup (pma_cons pm_int pma_nil)) pma_nil))))))) pmb_nil) (
  (pmb_cons (pms_if (pmt_val (pm_isi (T := "int") rfl (C.free 31 rfl) b_isinstance (pm_ix (pm_var 5) (pm_neg pm_int)) rfl (C.free 30 rfl) b_int)) (pmb_one (pms_ret (pm_tup (pma_cons (pm_var 2) (pma_cons (pm_var 3) (pma_cons (pm_var 4) (pma_cons (pm_add (pm_sl (pm_var 5) pmo_none (pmo_some (pm_neg pm_int))) (pm_tup (pma_cons (pm_add (pm_ix (pm_var 5) (pm_neg pm_int)) pm_int) pma_nil))) pma_nil))))))) pmb_nil) (
  (pmb_one (pms_ret (pm_tup (pma_cons (pm_var 2) (pma_cons (pm_var 3) (pma_cons (pm_var 4) (pma_cons (pm_add (pm_var 5) (pm_tup (pma_cons pm_int pma_nil))) pma_nil))))))))))))))))))))) : PMB (cxOf (L2.CX P w) P w K mg base N_stepped "stepped" (defScope (top 15)) (He.ga K "stepped") (.ref (He.codeOf K ("stepped", none))) A outer s H E) (TbOf tf tl K) (WF E) (defBody (top 15)) B_stepped)
theorem ok_stepped (C : W0 w K mg base) : OkD P w K mg base (TbOf tf tl K) 1 "stepped" ["version", "kind"] f_stepped := C.okD 9 11 (d := dOf 15 "stepped") rfl rfl rfl rfl rfl (fun fd F => fo_stepped C F) fun _ _ _ _ _ _ us hl => match us, hl with | [_, _], _ => rfl
end
/-! ### step_between -/
abbrev N_step_between : List Str := ["one", "other", "spot", "kind"]
theorem nd_step_between : N_step_between.Nodup := by decide +kernel
def B_step_between : Sm := sSeq (sFor (mEnum (mSl (mC c_KINDS_OF_STEPS) (mNoPart) (mPart (mC (.int 3))))) (gTp 2 (gsCons (gNm 2) (gsCons (gNm 3) (gsNil)))) (
  sIf (mTst (mOp (pure2 gNe) (mOp fIx (mVar 0) (mVar 2)) (mOp fIx (mVar 1) (mVar 2)))) (sRet (mVar 3)) (sNext))) (
  sRet (mIf (mTst (mOp (pure2 gNe) (mOp fIx (mVar 0) (mC (.int 3))) (mOp fIx (mVar 1) (mC (.int 3))))) (mC (.str "early")) (mC (.str ""))))
def f_step_between : PF := bodyF 2 4 B_step_between
theorem sc_step_between : FnScope N_step_between ["one", "other"] (defScope (top 16)) := ⟨rfl, rfl, rfl, nd_step_between, rfl, by decide +kernel, by decide +kernel⟩
section
variable {P : Program} {w : World} {K : PySem.W.Frag} {mg : Str → Option Value} {base : Heap}
theorem fo_step_between (C : W0 w K mg base) {fd : FuncData} (F : FunD K "step_between" "step_between" (defArgs (top 16)) (defBody (top 16)) (defScope (top 16)) [] [] (He.ga K "step_between") fd) : FnOk P w K mg base (L2.CX P w) 1 (He.ga K "step_between") fd ["one", "other"] (spP K (TbOf tf tl K) 2 f_step_between) := by
  refine fn_pmT (p := ("step_between", none)) F sc_step_between fun A outer s H E r => ?_
  have tk : Takes (cxOf (L2.CX P w) P w K mg base N_step_between "step_between" (defScope (top 16)) (He.ga K "step_between") (.ref (He.codeOf K ("step_between", none))) A outer s H E) (WF E) := takes_of rfl rfl rfl rfl
  have tL := takes_toL tk
  have fm : Frm (cxOf (L2.CX P w) P w K mg base N_step_between "step_between" (defScope (top 16)) (He.ga K "step_between") (.ref (He.codeOf K ("step_between", none))) A outer s H E) s.heap.objs.size := ⟨⟨_, _, rfl, rfl⟩, rfl⟩
  have hp : PassesOwn (model P w) _ _ _ := passes_of (X := cxOf (L2.CX P w) P w K mg base N_step_between "step_between" (defScope (top 16)) (He.ga K "step_between") (.ref (He.codeOf K ("step_between", none))) A outer s H E) rfl
  exact ((pmb_cons (pms_for hp rfl (pmi_enum rfl (C.free 29 rfl) (pm_sl (con_KINDS_OF_STEPS C rfl) pmo_none (pmo_some pm_int))) (pmg_tup rfl (pmgs_cons (pmg_name 2 nd_step_between) (pmgs_cons (pmg_name 3 nd_step_between) pmgs_nil))) (pmb_one (pms_if (pmt_cm (c_ne r) (pm_ix (pm_var 0) (pm_var 2)) (pm_ix (pm_var 1) (pm_var 2))) (pmb_one (pms_ret (pm_var 3))) pmb_nil))) (
  (pmb_one (pms_ret (pm_ifexp (pmt_cm (c_ne r) (pm_ix (pm_var 0) pm_int) (pm_ix (pm_var 1) pm_int)) pm_str pm_str))))) : PMB (cxOf (L2.CX P w) P w K mg base N_step_between "step_between" (defScope (top 16)) (He.ga K "step_between") (.ref (He.codeOf K ("step_between", none))) A outer s H E) (TbOf tf tl K) (WF E) (defBody (top 16)) B_step_between)
theorem ok_step_between (C : W0 w K mg base) : OkD P w K mg base (TbOf tf tl K) 1 "step_between" ["one", "other"] f_step_between := C.okD 10 12 (d := dOf 16 "step_between") rfl rfl rfl rfl rfl (fun fd F => fo_step_between C F) fun _ _ _ _ _ _ us hl => match us, hl with | [_, _], _ => rfl
end
/-! ### is_kept -/
abbrev N_is_kept : List Str := ["one", "other", "spots", "many", "spot"]
theorem nd_is_kept : N_is_kept.Nodup := by decide +kernel
def B_is_kept : Sm := sSeq (sIf (mTst (mOp (pure2 gEq) (mVar 0) (mVar 1))) (sRet (mC (.bl true))) (sNext)) (
  sSeq (sIf (mOr (mTst (mOp (pure2 gNe) (mOp fIx (mVar 0) (mC (.int 3))) (mTup (mNil)))) (mOr (mTst (mOp (pure2 gNe) (mOp fIx (mVar 1) (mC (.int 3))) (mTup (mNil)))) (mTst (mOp (pure2 gLt) (mCall f_order (mCons (mVar 1) (mCons (mVar 0) (mNil)))) (mC (.int 0)))))) (sRet (mC (.bl false))) (sNext)) (
  sSeq (sSet 2 (mLc [4] (mRng (mCons (mC (.int 3)) (mNil))) (gNm 4) (mTst (mOp (pure2 gNe) (mOp fIx (mVar 0) (mVar 4)) (mC (.int 0)))) (mVar 4))) (
  sSeq (sSet 3 (mIf (mTst (mOp (pure2 gNe) (mVar 2) (mLst (mNil)))) (mOp (fAdd) (mOp fIx (mVar 2) (mC (.int 0))) (mC (.int 1))) (mC (.int 3)))) (
  sRet (mOp (pure2 gEq) (mSl (mVar 0) (mNoPart) (mPart (mVar 3))) (mSl (mVar 1) (mNoPart) (mPart (mVar 3))))))))
def f_is_kept : PF := bodyF 2 5 B_is_kept
theorem sc_is_kept : FnScope N_is_kept ["one", "other"] (defScope (top 17)) := ⟨rfl, rfl, rfl, nd_is_kept, rfl, by decide +kernel, by decide +kernel⟩
section
variable {P : Program} {w : World} {K : PySem.W.Frag} {mg : Str → Option Value} {base : Heap}
theorem fo_is_kept (C : W0 w K mg base) {fd : FuncData} (F : FunD K "is_kept" "is_kept" (defArgs (top 17)) (defBody (top 17)) (defScope (top 17)) [] [] (He.ga K "is_kept") fd) : FnOk P w K mg base (L2.CX P w) 8 (He.ga K "is_kept") fd ["one", "other"] (spP K (TbOf tf tl K) 2 f_is_kept) := by
  refine fn_pmT (p := ("is_kept", none)) F sc_is_kept fun A outer s H E r => ?_
  have tk : Takes (cxOf (L2.CX P w) P w K mg base N_is_kept "is_kept" (defScope (top 17)) (He.ga K "is_kept") (.ref (He.codeOf K ("is_kept", none))) A outer s H E) (WF E) := takes_of rfl rfl rfl rfl
  have tL := takes_toL tk
  have fm : Frm (cxOf (L2.CX P w) P w K mg base N_is_kept "is_kept" (defScope (top 17)) (He.ga K "is_kept") (.ref (He.codeOf K ("is_kept", none))) A outer s H E) s.heap.objs.size := ⟨⟨_, _, rfl, rfl⟩, rfl⟩
  have hp : PassesOwn (model P w) _ _ _ := passes_of (X := cxOf (L2.CX P w) P w K mg base N_is_kept "is_kept" (defScope (top 17)) (He.ga K "is_kept") (.ref (He.codeOf K ("is_kept", none))) A outer s H E) rfl
  exact ((pmb_cons (pms_if (pmt_cm (c_eq r) (pm_var 0) (pm_var 1)) (pmb_one (pms_ret pm_bl)) pmb_nil) (
  (pmb_cons (pms_if (pmt_w (pmw_or (pmt_cm (c_ne r) (pm_ix (pm_var 0) pm_int) (pm_tup pma_nil)) (pmw_or (pmt_cm (c_ne r) (pm_ix (pm_var 1) pm_int) (pm_tup pma_nil)) (pmw_or1 (pmt_cm (c_lt r) (pm_callD (ok_order C) r (by decide) (takesL_pass tL) rfl (pma_cons (pm_var 1) (pma_cons (pm_var 0) pma_nil)) (len_cons (len_cons len_nil))) pm_int))))) (pmb_one (pms_ret pm_bl)) pmb_nil) (
  (pmb_cons (pms_setLc 2 (own := [("spot", 4)]) rfl nd_is_kept rfl rfl rfl (pmi_rng1 rfl (C.free 35 rfl) (pma_cons pm_int pma_nil) len1) (blkOk_by (by with_unfolding_all rfl)) tL fm (by decide) (fun _ _ _ _ _ _ => (pmg_name 4 nd_is_kept)) (fun _ _ _ _ _ _ _ t1 => (pmts_one (pmt_cm (c_ne r) (pm_ix (pm_var 0) (pm_var 4)) pm_int))) (fun _ _ _ _ _ _ _ t1 => (pm_var 4))) (
  (pmb_cons (pms_set 3 (pm_ifexp (pmt_cm (c_ne r) (pm_var 2) (pm_lst pma_nil)) (pm_add (pm_ix (pm_var 2) pm_int) pm_int) pm_int) nd_is_kept) (
  (pmb_one (pms_ret (pm_cm (c_eq r) (pm_sl (pm_var 0) pmo_none (pmo_some (pm_var 3))) (pm_sl (pm_var 1) pmo_none (pmo_some (pm_var 3)))))))))))))) : PMB (cxOf (L2.CX P w) P w K mg base N_is_kept "is_kept" (defScope (top 17)) (He.ga K "is_kept") (.ref (He.codeOf K ("is_kept", none))) A outer s H E) (TbOf tf tl K) (WF E) (defBody (top 17)) B_is_kept)
theorem ok_is_kept (C : W0 w K mg base) : OkD P w K mg base (TbOf tf tl K) 8 "is_kept" ["one", "other"] f_is_kept := C.okD 11 13 (d := dOf 17 "is_kept") rfl rfl rfl rfl rfl (fun fd F => fo_is_kept C F) fun _ _ _ _ _ _ us hl => match us, hl with | [_, _], _ => rfl
end
/-! ### groups_kept -/
abbrev N_groups_kept : List Str := ["versions", "found", "version", "row"]
theorem nd_groups_kept : N_groups_kept.Nodup := by decide +kernel
def S_groups_kept_0 : Sm := sSet 1 (mNew (mNil))
def S_groups_kept_1_b_0_a_0 : Sm := sDrop (mMeth "list" mtApp (mOp fIx (mVar 1) (mUn gNeg (mC (.int 1)))) (mCons (mVar 2) (mNil)))
def S_groups_kept_1_b_0_e_0 : Sm := sDrop (mMeth "list" mtApp (mVar 1) (mCons (mNew (mCons (mVar 2) (mNil))) (mNil)))
def S_groups_kept_1_b_0 : Sm := sIf (mAnd (mTst (mOp (fNeH) (mVar 1) (mNew (mNil)))) (mTst (mCall f_is_kept (mCons (mOp fIx (mOp fIx (mVar 1) (mUn gNeg (mC (.int 1)))) (mC (.int 0))) (mCons (mVar 2) (mNil)))))) (S_groups_kept_1_b_0_a_0) (S_groups_kept_1_b_0_e_0)
def S_groups_kept_1 : Sm := sFor (mSrc (mCall f_in_order (mCons (mVar 0) (mNil)))) (gNm 2) (
  S_groups_kept_1_b_0)
def S_groups_kept_2 : Sm := sRet (mGenL [3] excs finTup (mSrc (mVar 1)) (gNm 3) (mYes) (mCall fTuple (mCons (mVar 3) mNil)))
def B_groups_kept : Sm := sSeq (S_groups_kept_0) (
  sSeq (S_groups_kept_1) (
  S_groups_kept_2))
def f_groups_kept : PF := bodyF 1 4 B_groups_kept
theorem sc_groups_kept : FnScope N_groups_kept ["versions"] (defScope (top 18)) := ⟨rfl, rfl, rfl, nd_groups_kept, rfl, by decide +kernel, by decide +kernel⟩
section
variable {P : Program} {w : World} {K : PySem.W.Frag} {mg : Str → Option Value} {base : Heap}
theorem fo_groups_kept (C : W0 w K mg base) {fd : FuncData} (F : FunD K "groups_kept" "groups_kept" (defArgs (top 18)) (defBody (top 18)) (defScope (top 18)) [] [] (He.ga K "groups_kept") fd) : FnOk P w K mg base (L2.CX P w) 13 (He.ga K "groups_kept") fd ["versions"] (spP K (TbOf tf tl K) 1 f_groups_kept) := by
  refine fn_pmT (p := ("groups_kept", none)) F sc_groups_kept fun A outer s H E r => ?_
  have tk : Takes (cxOf (L2.CX P w) P w K mg base N_groups_kept "groups_kept" (defScope (top 18)) (He.ga K "groups_kept") (.ref (He.codeOf K ("groups_kept", none))) A outer s H E) (WF E) := takes_of rfl rfl rfl rfl
  have tL := takes_toL tk
  have fm : Frm (cxOf (L2.CX P w) P w K mg base N_groups_kept "groups_kept" (defScope (top 18)) (He.ga K "groups_kept") (.ref (He.codeOf K ("groups_kept", none))) A outer s H E) s.heap.objs.size := ⟨⟨_, _, rfl, rfl⟩, rfl⟩
  have hp : PassesOwn (model P w) _ _ _ := passes_of (X := cxOf (L2.CX P w) P w K mg base N_groups_kept "groups_kept" (defScope (top 18)) (He.ga K "groups_kept") (.ref (He.codeOf K ("groups_kept", none))) A outer s H E) rfl
  exact ((pmb_cons (pms_set 1 (pm_new pma_nil) nd_groups_kept) (
  (pmb_cons (pms_for hp rfl (pmi_val (pm_callD (ok_in_order C) r (by decide) (takesL_pass tL) rfl (pma_cons (pm_var 0) pma_nil) (len_cons len_nil))) (pmg_name 2 nd_groups_kept) (pmb_one (pms_if (pmt_w (pmw_and (pmt_cm (c_neH r) (pm_var 1) (pm_new pma_nil)) (pmw_and1 (pmt_val (pm_callD (ok_is_kept C) r (by decide) (takesL_pass tL) rfl (pma_cons (pm_ix (pm_ix (pm_var 1) (pm_neg pm_int)) pm_int) (pma_cons (pm_var 2) pma_nil)) (len_cons (len_cons len_nil))))))) (pmb_one (pms_expr (met_append (pm_ix (pm_var 1) (pm_neg pm_int)) (pma_cons (pm_var 2) pma_nil)))) (pmb_one (pms_expr (met_append (pm_var 1) (pma_cons (pm_new (pma_cons (pm_var 2) pma_nil)) pma_nil))))))) (
  (pmb_one (pms_ret (pm_gTup (own := [("row", 3)]) (xs := excs) (Room.mono r (by decide : 7 + 5 ≤ 12)) rfl nd_groups_kept tL rfl (C.free 39 rfl) (C.tabs 5 rfl) (tb_mem 5 rfl) rfl ⟨(blkOk_by (by with_unfolding_all rfl)), by decide, rfl, rfl⟩ (pmi_val (pm_var 1)) (by decide) C.nosi (fun _ _ _ _ _ _ _ _ _ => (pmg_name 3 nd_groups_kept)) (fun _ _ _ _ _ _ _ _ _ _ r1 t1 => pmts_nil) (fun _ _ _ _ _ _ _ _ _ _ r1 t1 => (pc_tuple rfl (C.free 39 rfl) (pm_var 3))) (by intro _; rfl)))))))) : PMB (cxOf (L2.CX P w) P w K mg base N_groups_kept "groups_kept" (defScope (top 18)) (He.ga K "groups_kept") (.ref (He.codeOf K ("groups_kept", none))) A outer s H E) (TbOf tf tl K) (WF E) (defBody (top 18)) B_groups_kept)
theorem ok_groups_kept (C : W0 w K mg base) : OkD P w K mg base (TbOf tf tl K) 13 "groups_kept" ["versions"] f_groups_kept := C.okD 12 14 (d := dOf 18 "groups_kept") rfl rfl rfl rfl rfl (fun fd F => fo_groups_kept C F) fun _ _ _ _ _ _ us hl => match us, hl with | [_], _ => rfl
end
/-! ### least_step -/
abbrev N_least_step : List Str := ["versions", "version", "kind", "found"]
theorem nd_least_step : N_least_step.Nodup := by decide +kernel
def S_least_step_0 : Sm := sSet 3 (mCall f_stepped (mCons (mVar 1) (mCons (mVar 2) (mNil))))
def S_least_step_1_w_0 : Sm := sSet 3 (mCall f_stepped (mCons (mVar 3) (mCons (mVar 2) (mNil))))
def S_least_step_1 : Sm := sWhile (mTst (mOp (pure2 gIn) (mVar 3) (mVar 0))) (S_least_step_1_w_0) 1000000
def S_least_step_2 : Sm := sRet (mVar 3)
def B_least_step : Sm := sSeq (S_least_step_0) (
  sSeq (S_least_step_1) (
  S_least_step_2))
def f_least_step : PF := bodyF 3 4 B_least_step
theorem sc_least_step : FnScope N_least_step ["versions", "version", "kind"] (defScope (top 19)) := ⟨rfl, rfl, rfl, nd_least_step, rfl, by decide +kernel, by decide +kernel⟩
section
variable {P : Program} {w : World} {K : PySem.W.Frag} {mg : Str → Option Value} {base : Heap}
theorem fo_least_step (C : W0 w K mg base) {fd : FuncData} (F : FunD K "least_step" "least_step" (defArgs (top 19)) (defBody (top 19)) (defScope (top 19)) [] [] (He.ga K "least_step") fd) : FnOk P w K mg base (L2.CX P w) 2 (He.ga K "least_step") fd ["versions", "version", "kind"] (spP K (TbOf tf tl K) 3 f_least_step) := by
  refine fn_pmT (p := ("least_step", none)) F sc_least_step fun A outer s H E r => ?_
  have tk : Takes (cxOf (L2.CX P w) P w K mg base N_least_step "least_step" (defScope (top 19)) (He.ga K "least_step") (.ref (He.codeOf K ("least_step", none))) A outer s H E) (WF E) := takes_of rfl rfl rfl rfl
  have tL := takes_toL tk
  have fm : Frm (cxOf (L2.CX P w) P w K mg base N_least_step "least_step" (defScope (top 19)) (He.ga K "least_step") (.ref (He.codeOf K ("least_step", none))) A outer s H E) s.heap.objs.size := ⟨⟨_, _, rfl, rfl⟩, rfl⟩
  have hp : PassesOwn (model P w) _ _ _ := passes_of (X := cxOf (L2.CX P w) P w K mg base N_least_step "least_step" (defScope (top 19)) (He.ga K "least_step") (.ref (He.codeOf K ("least_step", none))) A outer s H E) rfl
  exact ((pmb_cons (pms_set 3 (pm_callD (ok_stepped C) r (by decide) (takesL_pass tL) rfl (pma_cons (pm_var 1) (pma_cons (pm_var 2) pma_nil)) (len_cons (len_cons len_nil))) nd_least_step) (
  (pmb_cons (pms_while 1000000 hp (pmt_cm (c_in r) (pm_var 3) (pm_var 0)) (pmb_one (pms_set 3 (pm_callD (ok_stepped C) r (by decide) (takesL_pass tL) rfl (pma_cons (pm_var 3) (pma_cons (pm_var 2) pma_nil)) (len_cons (len_cons len_nil))) nd_least_step))) (
  (pmb_one (pms_ret (pm_var 3))))))) : PMB (cxOf (L2.CX P w) P w K mg base N_least_step "least_step" (defScope (top 19)) (He.ga K "least_step") (.ref (He.codeOf K ("least_step", none))) A outer s H E) (TbOf tf tl K) (WF E) (defBody (top 19)) B_least_step)
theorem ok_least_step (C : W0 w K mg base) : OkD P w K mg base (TbOf tf tl K) 2 "least_step" ["versions", "version", "kind"] f_least_step := C.okD 13 15 (d := dOf 19 "least_step") rfl rfl rfl rfl rfl (fun fd F => fo_least_step C F) fun _ _ _ _ _ _ us hl => match us, hl with | [_, _, _], _ => rfl
end
/-! ### _law_dice -/
abbrev N__law_dice : List Str := ["cell"]
theorem nd__law_dice : N__law_dice.Nodup := by decide +kernel
def B__law_dice : Sm := sSeq (sIf (mTst (mChain (pure2 gLt) (pure2 gLt) (mOp (pure2 gSubA) (mC (.int 0)) (mC (.int 10))) (mVar 0) (mC (.int 10)))) (sRet (mNew (mCons (mCall fAbs (mCons (mVar 0) mNil)) (mCons (mC (.int 0)) (mCons (mC (.int 2)) (mNil)))))) (sNext)) (
  sRet (mNew (mCons (mVar 0) (mCons (mOp (fAdd) (mC (.int 1)) (mOp (pure2 gMod) (mCall fInt (mCons (mVar 0) mNil)) (mC (.int 1009)))) (mCons (mCall fInt (mCons (mOp (pure2 gGe) (mVar 0) (mOp (pure2 gPow) (mC (.int 10)) (mC (.int 18)))) mNil)) (mNil))))))
def f__law_dice : PF := bodyF 1 1 B__law_dice
theorem sc__law_dice : FnScope N__law_dice ["cell"] (defScope (top 21)) := ⟨rfl, rfl, rfl, nd__law_dice, rfl, by decide +kernel, by decide +kernel⟩
section
variable {P : Program} {w : World} {K : PySem.W.Frag} {mg : Str → Option Value} {base : Heap}
theorem fo__law_dice (C : W0 w K mg base) {fd : FuncData} (F : FunD K "_law_dice" "_law_dice" (defArgs (top 21)) (defBody (top 21)) (defScope (top 21)) [] [] (He.ga K "_law_dice") fd) : FnOk P w K mg base (L2.CX P w) 1 (He.ga K "_law_dice") fd ["cell"] (spP K (TbOf tf tl K) 1 f__law_dice) := by
  refine fn_pmT (p := ("_law_dice", none)) F sc__law_dice fun A outer s H E r => ?_
  have tk : Takes (cxOf (L2.CX P w) P w K mg base N__law_dice "_law_dice" (defScope (top 21)) (He.ga K "_law_dice") (.ref (He.codeOf K ("_law_dice", none))) A outer s H E) (WF E) := takes_of rfl rfl rfl rfl
  have tL := takes_toL tk
  have fm : Frm (cxOf (L2.CX P w) P w K mg base N__law_dice "_law_dice" (defScope (top 21)) (He.ga K "_law_dice") (.ref (He.codeOf K ("_law_dice", none))) A outer s H E) s.heap.objs.size := ⟨⟨_, _, rfl, rfl⟩, rfl⟩
  have hp : PassesOwn (model P w) _ _ _ := passes_of (X := cxOf (L2.CX P w) P w K mg base N__law_dice "_law_dice" (defScope (top 21)) (He.ga K "_law_dice") (.ref (He.codeOf K ("_law_dice", none))) A outer s H E) rfl
  exact ((pmb_cons (pms_if (pmt_cm2 (c_lt r) (c_lt r) (pm_subA pm_int pm_int) (pm_var 0) pm_int) (pmb_one (pms_ret (pm_new (pma_cons (pc_abs rfl (C.free 26 rfl) (pm_var 0)) (pma_cons pm_int (pma_cons pm_int pma_nil)))))) pmb_nil) (
  (pmb_one (pms_ret (pm_new (pma_cons (pm_var 0) (pma_cons (pm_add pm_int (pm_mod (pc_int rfl (C.free 30 rfl) (pm_var 0)) pm_int)) (pma_cons (pc_int rfl (C.free 30 rfl) (pm_cm (c_ge r) (pm_var 0) (pm_pow pm_int pm_int))) pma_nil)))))))) : PMB (cxOf (L2.CX P w) P w K mg base N__law_dice "_law_dice" (defScope (top 21)) (He.ga K "_law_dice") (.ref (He.codeOf K ("_law_dice", none))) A outer s H E) (TbOf tf tl K) (WF E) (defBody (top 21)) B__law_dice)
theorem ok__law_dice (C : W0 w K mg base) : OkD P w K mg base (TbOf tf tl K) 1 "_law_dice" ["cell"] f__law_dice := C.okD 14 16 (d := dOf 21 "_law_dice") rfl rfl rfl rfl rfl (fun fd F => fo__law_dice C F) fun _ _ _ _ _ _ us hl => match us, hl with | [_], _ => rfl
end
/-! ### _law_roll -/
def B__law_roll (R : PF) : Sm := sSeq (sIf (mOr (mTst (mOp (pure2 gEq) (mOp fIx (mVar 0) (mC (.int 2))) (mC (.int 2)))) (mAnd (mTst (mOp (pure2 gEq) (mOp fIx (mVar 0) (mC (.int 2))) (mC (.int 1)))) (mTst (mOp (pure2 gGt) (mOp fIx (mVar 0) (mC (.int 0))) (mC (.int 0)))))) (sSeq (sSet 2 (mOp (pure2 gMod) (mCall fInt (mCons (mOp fIx (mVar 0) (mC (.int 0))) mNil)) (mVar 1))) (
  sSeq (sSetIx (mVar 0) (mC (.int 0)) (mOp (pure2 gDiv) (mOp fIx (mVar 0) (mC (.int 0))) (mVar 1))) (
  sRet (mVar 2)))) (sNext)) (
  sSeq (sSetIx (mVar 0) (mC (.int 2)) (mC (.int 0))) (
  sSeq (sIf (mTst (mOp (pure2 gGt) (mVar 1) (mC (.int 100000000)))) (sRet (mOp (pure2 gMod) (mCall fInt (mCons (mOp (fAdd) (mOp (pure2 gMul) (mCall R (mCons (mVar 0) (mCons (mOp (fAdd) (mOp (pure2 gDiv) (mVar 1) (mC (.int 100000000))) (mC (.int 1))) (mNil)))) (mC (.int 100000000))) (mCall R (mCons (mVar 0) (mCons (mC (.int 100000000)) (mNil))))) mNil)) (mVar 1))) (sNext)) (
  sSeq (sSetIx (mVar 0) (mC (.int 0)) (mOp (pure2 gMod) (mCall fInt (mCons (mOp (fAdd) (mOp (fAdd) (mOp (pure2 gMul) (mOp fIx (mVar 0) (mC (.int 0))) (mC (.int 48271))) (mOp (pure2 gMul) (mOp fIx (mVar 0) (mC (.int 1))) (mC (.int 69621)))) (mC (.int 11))) mNil)) (mC (.int 2147483647)))) (
  sSeq (sSetIx (mVar 0) (mC (.int 1)) (mOp (fAdd) (mOp fIx (mVar 0) (mC (.int 1))) (mC (.int 1)))) (
  sRet (mOp (pure2 gMod) (mCall fInt (mCons (mOp (pure2 gDiv) (mOp fIx (mVar 0) (mC (.int 0))) (mC (.int 7))) mNil)) (mVar 1)))))))
def fr__law_roll : Nat → PF
  | 0 => fun _ _ => .stuck
  | d + 1 => bodyF 2 3 (B__law_roll (fr__law_roll d))
def f__law_roll : PF := fr__law_roll 3
abbrev N__law_roll : List Str := ["dice", "many", "found"]
theorem nd__law_roll : N__law_roll.Nodup := by decide +kernel
theorem sc__law_roll : FnScope N__law_roll ["dice", "many"] (defScope (top 22)) := ⟨rfl, rfl, rfl, nd__law_roll, rfl, by decide +kernel, by decide +kernel⟩
section
variable {P : Program} {w : World} {K : PySem.W.Frag} {mg : Str → Option Value} {base : Heap}
theorem okr__law_roll (C : W0 w K mg base) : ∀ d : Nat, OkD P w K mg base (TbOf tf tl K) (1 + d) "_law_roll" ["dice", "many"] (fr__law_roll d)
  | 0 => C.okD 15 17 (d := dOf 22 "_law_roll") rfl rfl rfl rfl rfl (fun fd F => fn_zero) fun _ _ _ _ _ _ us hl => match us, hl with | [_, _], _ => rfl
  | d + 1 => C.okD 15 17 (d := dOf 22 "_law_roll") rfl rfl rfl rfl rfl (fun fd F => by
    have GR := okr__law_roll C d
    have key : ∀ R : PF, OkD P w K mg base (TbOf tf tl K) (1 + d) "_law_roll" ["dice", "many"] R → FnOk P w K mg base (L2.CX P w) (1 + d + 1) (He.ga K "_law_roll") fd ["dice", "many"] (spP K (TbOf tf tl K) 2 (bodyF 2 3 (B__law_roll R))) := fun R GR => by
      refine fn_pmT (p := ("_law_roll", none)) F sc__law_roll fun A outer s H E r => ?_
      have tk : Takes (cxOf (L2.CX P w) P w K mg base N__law_roll "_law_roll" (defScope (top 22)) (He.ga K "_law_roll") (.ref (He.codeOf K ("_law_roll", none))) A outer s H E) (WF E) := takes_of rfl rfl rfl rfl
      have tL := takes_toL tk
      have fm : Frm (cxOf (L2.CX P w) P w K mg base N__law_roll "_law_roll" (defScope (top 22)) (He.ga K "_law_roll") (.ref (He.codeOf K ("_law_roll", none))) A outer s H E) s.heap.objs.size := ⟨⟨_, _, rfl, rfl⟩, rfl⟩
      have hp : PassesOwn (model P w) _ _ _ := passes_of (X := cxOf (L2.CX P w) P w K mg base N__law_roll "_law_roll" (defScope (top 22)) (He.ga K "_law_roll") (.ref (He.codeOf K ("_law_roll", none))) A outer s H E) rfl
      exact ((pmb_cons (pms_if (pmt_w (pmw_or (pmt_cm (c_eq r) (pm_ix (pm_var 0) pm_int) pm_int) (pmw_or1 (pmt_w (pmw_and (pmt_cm (c_eq r) (pm_ix (pm_var 0) pm_int) pm_int) (pmw_and1 (pmt_cm (c_gt r) (pm_ix (pm_var 0) pm_int) pm_int))))))) (pmb_cons (pms_set 2 (pm_mod (pc_int rfl (C.free 30 rfl) (pm_ix (pm_var 0) pm_int)) (pm_var 1)) nd__law_roll) (
  (pmb_cons (pms_setIx (pm_var 0) pm_int (pm_fdiv (pm_ix (pm_var 0) pm_int) (pm_var 1))) (
  (pmb_one (pms_ret (pm_var 2))))))) pmb_nil) (
  (pmb_cons (pms_setIx (pm_var 0) pm_int pm_int) (
  (pmb_cons (pms_if (pmt_cm (c_gt r) (pm_var 1) pm_int) (pmb_one (pms_ret (pm_mod (pc_int rfl (C.free 30 rfl) (pm_add (pm_mulI (pm_callD (GR) r (Nat.le_refl _) (takesL_pass tL) rfl (pma_cons (pm_var 0) (pma_cons (pm_add (pm_fdiv (pm_var 1) pm_int) pm_int) pma_nil)) (len_cons (len_cons len_nil))) pm_int) (pm_callD (GR) r (Nat.le_refl _) (takesL_pass tL) rfl (pma_cons (pm_var 0) (pma_cons pm_int pma_nil)) (len_cons (len_cons len_nil))))) (pm_var 1)))) pmb_nil) (
  (pmb_cons (pms_setIx (pm_var 0) pm_int (pm_mod (pc_int rfl (C.free 30 rfl) (pm_add (pm_add (pm_mulI (pm_ix (pm_var 0) pm_int) pm_int) (pm_mulI (pm_ix (pm_var 0) pm_int) pm_int)) pm_int)) pm_int)) (
  (pmb_cons (pms_setIx (pm_var 0) pm_int (pm_add (pm_ix (pm_var 0) pm_int) pm_int)) (
  (pmb_one (pms_ret (pm_mod (pc_int rfl (C.free 30 rfl) (pm_fdiv (pm_ix (pm_var 0) pm_int) pm_int)) (pm_var 1)))))))))))))) : PMB (cxOf (L2.CX P w) P w K mg base N__law_roll "_law_roll" (defScope (top 22)) (He.ga K "_law_roll") (.ref (He.codeOf K ("_law_roll", none))) A outer s H E) (TbOf tf tl K) (WF E) (defBody (top 22)) (B__law_roll R))
    exact key _ GR) fun _ _ _ _ _ _ us hl => match us, hl with | [_, _], _ => rfl
theorem ok__law_roll (C : W0 w K mg base) : OkD P w K mg base (TbOf tf tl K) 4 "_law_roll" ["dice", "many"] f__law_roll := okr__law_roll C 3
end
/-! ### _law_rounds -/
abbrev N__law_rounds : List Str := ["script", "most", "cells", "cell"]
theorem nd__law_rounds : N__law_rounds.Nodup := by decide +kernel
def B__law_rounds : Sm := sSeq (sSet 2 (mSl (mVar 0) (mNoPart) (mPart (mVar 1)))) (
  sSeq (sIf (mTst (mOp (pure2 gEq) (mVar 2) (mLst (mNil)))) (sSet 2 (mLst (mCons (mC (.int 0)) (mNil)))) (sNext)) (
  sRet (mLc [3] (mSrc (mVar 2)) (gNm 3) (mYes) (mCall f__law_dice (mCons (mVar 3) (mNil))))))
def f__law_rounds : PF := bodyF 2 4 B__law_rounds
theorem sc__law_rounds : FnScope N__law_rounds ["script", "most"] (defScope (top 23)) := ⟨rfl, rfl, rfl, nd__law_rounds, rfl, by decide +kernel, by decide +kernel⟩
section
variable {P : Program} {w : World} {K : PySem.W.Frag} {mg : Str → Option Value} {base : Heap}
theorem fo__law_rounds (C : W0 w K mg base) {fd : FuncData} (F : FunD K "_law_rounds" "_law_rounds" (defArgs (top 23)) (defBody (top 23)) (defScope (top 23)) [] [] (He.ga K "_law_rounds") fd) : FnOk P w K mg base (L2.CX P w) 2 (He.ga K "_law_rounds") fd ["script", "most"] (spP K (TbOf tf tl K) 2 f__law_rounds) := by
  refine fn_pmT (p := ("_law_rounds", none)) F sc__law_rounds fun A outer s H E r => ?_
  have tk : Takes (cxOf (L2.CX P w) P w K mg base N__law_rounds "_law_rounds" (defScope (top 23)) (He.ga K "_law_rounds") (.ref (He.codeOf K ("_law_rounds", none))) A outer s H E) (WF E) := takes_of rfl rfl rfl rfl
  have tL := takes_toL tk
  have fm : Frm (cxOf (L2.CX P w) P w K mg base N__law_rounds "_law_rounds" (defScope (top 23)) (He.ga K "_law_rounds") (.ref (He.codeOf K ("_law_rounds", none))) A outer s H E) s.heap.objs.size := ⟨⟨_, _, rfl, rfl⟩, rfl⟩
  have hp : PassesOwn (model P w) _ _ _ := passes_of (X := cxOf (L2.CX P w) P w K mg base N__law_rounds "_law_rounds" (defScope (top 23)) (He.ga K "_law_rounds") (.ref (He.codeOf K ("_law_rounds", none))) A outer s H E) rfl
  exact ((pmb_cons (pms_set 2 (pm_sl (pm_var 0) pmo_none (pmo_some (pm_var 1))) nd__law_rounds) (
  (pmb_cons (pms_if (pmt_cm (c_eq r) (pm_var 2) (pm_lst pma_nil)) (pmb_one (pms_set 2 (pm_lst (pma_cons pm_int pma_nil)) nd__law_rounds)) pmb_nil) (
  (pmb_one (pms_ret (pm_lc (own := [("cell", 3)]) rfl nd__law_rounds (pmi_val (pm_var 2)) (blkOk_by (by with_unfolding_all rfl)) tL fm (by decide) (fun _ _ _ _ _ _ => (pmg_name 3 nd__law_rounds)) (fun _ _ _ _ _ _ _ t1 => pmts_nil) (fun _ _ _ _ _ _ _ t1 => (pm_callD (ok__law_dice C) r (by decide) (takesL_pass t1) rfl (pma_cons (pm_var 3) pma_nil) (len_cons len_nil)))))))))) : PMB (cxOf (L2.CX P w) P w K mg base N__law_rounds "_law_rounds" (defScope (top 23)) (He.ga K "_law_rounds") (.ref (He.codeOf K ("_law_rounds", none))) A outer s H E) (TbOf tf tl K) (WF E) (defBody (top 23)) B__law_rounds)
theorem ok__law_rounds (C : W0 w K mg base) : OkD P w K mg base (TbOf tf tl K) 2 "_law_rounds" ["script", "most"] f__law_rounds := C.okD 16 18 (d := dOf 23 "_law_rounds") rfl rfl rfl rfl rfl (fun fd F => fo__law_rounds C F) fun _ _ _ _ _ _ us hl => match us, hl with | [_, _], _ => rfl
end
/-! ### _law_key -/
abbrev N__law_key : List Str := ["version", "part"]
theorem nd__law_key : N__law_key.Nodup := by decide +kernel
def B__law_key : Sm := sRet (mTup (mCons (mOp fIx (mVar 0) (mC (.int 0))) (mCons (mOp fIx (mVar 0) (mC (.int 1))) (mCons (mOp fIx (mVar 0) (mC (.int 2))) (mCons (mIf (mTst (mOp (pure2 gEq) (mOp fIx (mVar 0) (mC (.int 3))) (mTup (mNil)))) (mC (.int 1)) (mC (.int 0))) (mCons (mCall fTuple (mCons (mLc [1] (mSrc (mOp fIx (mVar 0) (mC (.int 3)))) (gNm 1) (mYes) (mIf (mTst (mOp (pure2 gIn) (mVar 1) (mUn1 fListRng (mC (.int 100))))) (mTup (mCons (mC (.int 0)) (mCons (mVar 1) (mCons (mC (.str "")) (mNil))))) (mTup (mCons (mC (.int 1)) (mCons (mC (.int 0)) (mCons (mVar 1) (mNil))))))) mNil)) (mNil)))))))
def f__law_key : PF := bodyF 1 2 B__law_key
theorem sc__law_key : FnScope N__law_key ["version"] (defScope (top 25)) := ⟨rfl, rfl, rfl, nd__law_key, rfl, by decide +kernel, by decide +kernel⟩
section
variable {P : Program} {w : World} {K : PySem.W.Frag} {mg : Str → Option Value} {base : Heap}
theorem fo__law_key (C : W0 w K mg base) {fd : FuncData} (F : FunD K "_law_key" "_law_key" (defArgs (top 25)) (defBody (top 25)) (defScope (top 25)) [] [] (He.ga K "_law_key") fd) : FnOk P w K mg base (L2.CX P w) 1 (He.ga K "_law_key") fd ["version"] (spP K (TbOf tf tl K) 1 f__law_key) := by
  refine fn_pmT (p := ("_law_key", none)) F sc__law_key fun A outer s H E r => ?_
  have tk : Takes (cxOf (L2.CX P w) P w K mg base N__law_key "_law_key" (defScope (top 25)) (He.ga K "_law_key") (.ref (He.codeOf K ("_law_key", none))) A outer s H E) (WF E) := takes_of rfl rfl rfl rfl
  have tL := takes_toL tk
  have fm : Frm (cxOf (L2.CX P w) P w K mg base N__law_key "_law_key" (defScope (top 25)) (He.ga K "_law_key") (.ref (He.codeOf K ("_law_key", none))) A outer s H E) s.heap.objs.size := ⟨⟨_, _, rfl, rfl⟩, rfl⟩
  have hp : PassesOwn (model P w) _ _ _ := passes_of (X := cxOf (L2.CX P w) P w K mg base N__law_key "_law_key" (defScope (top 25)) (He.ga K "_law_key") (.ref (He.codeOf K ("_law_key", none))) A outer s H E) rfl
  exact ((pmb_one (pms_ret (pm_tup (pma_cons (pm_ix (pm_var 0) pm_int) (pma_cons (pm_ix (pm_var 0) pm_int) (pma_cons (pm_ix (pm_var 0) pm_int) (pma_cons (pm_ifexp (pmt_cm (c_eq r) (pm_ix (pm_var 0) pm_int) (pm_tup pma_nil)) pm_int pm_int) (pma_cons (pc_tuple rfl (C.free 39 rfl) (pm_lc (own := [("part", 1)]) rfl nd__law_key (pmi_val (pm_ix (pm_var 0) pm_int)) (blkOk_by (by with_unfolding_all rfl)) tL fm (by decide) (fun _ _ _ _ _ _ => (pmg_name 1 nd__law_key)) (fun _ _ _ _ _ _ _ t1 => pmts_nil) (fun _ _ _ _ _ _ _ t1 => (pm_ifexp (pmt_cm (c_in r) (pm_var 1) (pm_listRng rfl rfl (C.free 33 rfl) rfl (C.free 35 rfl) pm_int)) (pm_tup (pma_cons pm_int (pma_cons (pm_var 1) (pma_cons pm_str pma_nil)))) (pm_tup (pma_cons pm_int (pma_cons pm_int (pma_cons (pm_var 1) pma_nil)))))))) pma_nil)))))))) : PMB (cxOf (L2.CX P w) P w K mg base N__law_key "_law_key" (defScope (top 25)) (He.ga K "_law_key") (.ref (He.codeOf K ("_law_key", none))) A outer s H E) (TbOf tf tl K) (WF E) (defBody (top 25)) B__law_key)
theorem ok__law_key (C : W0 w K mg base) : OkD P w K mg base (TbOf tf tl K) 1 "_law_key" ["version"] f__law_key := C.okD 18 20 (d := dOf 25 "_law_key") rfl rfl rfl rfl rfl (fun fd F => fo__law_key C F) fun _ _ _ _ _ _ us hl => match us, hl with | [_], _ => rfl
end
/-! ### _law_version -/
abbrev N__law_version : List Str := ["dice", "early"]
theorem nd__law_version : N__law_version.Nodup := by decide +kernel
def B__law_version : Sm := sSeq (sSet 1 (mOp fIx (mLst (mCons (mTup (mNil)) (mCons (mTup (mNil)) (mCons (mTup (mCons (mC (.int 0)) (mNil))) (mCons (mTup (mCons (mC (.str "a")) (mNil))) (mCons (mTup (mCons (mC (.str "a")) (mCons (mC (.int 1)) (mNil)))) (mCons (mTup (mCons (mC (.int 2)) (mNil))) (mNil)))))))) (mCall f__law_roll (mCons (mVar 0) (mCons (mC (.int 6)) (mNil)))))) (
  sRet (mTup (mCons (mCall f__law_roll (mCons (mVar 0) (mCons (mC (.int 3)) (mNil)))) (mCons (mCall f__law_roll (mCons (mVar 0) (mCons (mC (.int 3)) (mNil)))) (mCons (mCall f__law_roll (mCons (mVar 0) (mCons (mC (.int 3)) (mNil)))) (mCons (mVar 1) (mNil)))))))
def f__law_version : PF := bodyF 1 2 B__law_version
theorem sc__law_version : FnScope N__law_version ["dice"] (defScope (top 26)) := ⟨rfl, rfl, rfl, nd__law_version, rfl, by decide +kernel, by decide +kernel⟩
section
variable {P : Program} {w : World} {K : PySem.W.Frag} {mg : Str → Option Value} {base : Heap}
theorem fo__law_version (C : W0 w K mg base) {fd : FuncData} (F : FunD K "_law_version" "_law_version" (defArgs (top 26)) (defBody (top 26)) (defScope (top 26)) [] [] (He.ga K "_law_version") fd) : FnOk P w K mg base (L2.CX P w) 5 (He.ga K "_law_version") fd ["dice"] (spP K (TbOf tf tl K) 1 f__law_version) := by
  refine fn_pmT (p := ("_law_version", none)) F sc__law_version fun A outer s H E r => ?_
  have tk : Takes (cxOf (L2.CX P w) P w K mg base N__law_version "_law_version" (defScope (top 26)) (He.ga K "_law_version") (.ref (He.codeOf K ("_law_version", none))) A outer s H E) (WF E) := takes_of rfl rfl rfl rfl
  have tL := takes_toL tk
  have fm : Frm (cxOf (L2.CX P w) P w K mg base N__law_version "_law_version" (defScope (top 26)) (He.ga K "_law_version") (.ref (He.codeOf K ("_law_version", none))) A outer s H E) s.heap.objs.size := ⟨⟨_, _, rfl, rfl⟩, rfl⟩
  have hp : PassesOwn (model P w) _ _ _ := passes_of (X := cxOf (L2.CX P w) P w K mg base N__law_version "_law_version" (defScope (top 26)) (He.ga K "_law_version") (.ref (He.codeOf K ("_law_version", none))) A outer s H E) rfl
  exact ((pmb_cons (pms_set 1 (pm_ix (pm_lst (pma_cons (pm_tup pma_nil) (pma_cons (pm_tup pma_nil) (pma_cons (pm_tup (pma_cons pm_int pma_nil)) (pma_cons (pm_tup (pma_cons pm_str pma_nil)) (pma_cons (pm_tup (pma_cons pm_str (pma_cons pm_int pma_nil))) (pma_cons (pm_tup (pma_cons pm_int pma_nil)) pma_nil))))))) (pm_callD (ok__law_roll C) r (by decide) (takesL_pass tL) rfl (pma_cons (pm_var 0) (pma_cons pm_int pma_nil)) (len_cons (len_cons len_nil)))) nd__law_version) (
  (pmb_one (pms_ret (pm_tup (pma_cons (pm_callD (ok__law_roll C) r (by decide) (takesL_pass tL) rfl (pma_cons (pm_var 0) (pma_cons pm_int pma_nil)) (len_cons (len_cons len_nil))) (pma_cons (pm_callD (ok__law_roll C) r (by decide) (takesL_pass tL) rfl (pma_cons (pm_var 0) (pma_cons pm_int pma_nil)) (len_cons (len_cons len_nil))) (pma_cons (pm_callD (ok__law_roll C) r (by decide) (takesL_pass tL) rfl (pma_cons (pm_var 0) (pma_cons pm_int pma_nil)) (len_cons (len_cons len_nil))) (pma_cons (pm_var 1) pma_nil))))))))) : PMB (cxOf (L2.CX P w) P w K mg base N__law_version "_law_version" (defScope (top 26)) (He.ga K "_law_version") (.ref (He.codeOf K ("_law_version", none))) A outer s H E) (TbOf tf tl K) (WF E) (defBody (top 26)) B__law_version)
theorem ok__law_version (C : W0 w K mg base) : OkD P w K mg base (TbOf tf tl K) 5 "_law_version" ["dice"] f__law_version := C.okD 19 21 (d := dOf 26 "_law_version") rfl rfl rfl rfl rfl (fun fd F => fo__law_version C F) fun _ _ _ _ _ _ us hl => match us, hl with | [_], _ => rfl
end
/-! ### _law_text -/
abbrev N__law_text : List Str := ["version", "part"]
theorem nd__law_text : N__law_text.Nodup := by decide +kernel
def B__law_text : Sm := sRet (mOp (fAdd) (mMeth "str" mtJoin (mC (.str ".")) (mCons (mLc [1] (mSrc (mSl (mVar 0) (mNoPart) (mPart (mC (.int 3))))) (gNm 1) (mYes) (mCall fStr (mCons (mVar 1) mNil))) (mNil))) (mIf (mTst (mOp (pure2 gNe) (mOp fIx (mVar 0) (mC (.int 3))) (mTup (mNil)))) (mOp (fAdd) (mC (.str "-")) (mMeth "str" mtJoin (mC (.str ".")) (mCons (mLc [1] (mSrc (mOp fIx (mVar 0) (mC (.int 3)))) (gNm 1) (mYes) (mCall fStr (mCons (mVar 1) mNil))) (mNil)))) (mC (.str ""))))
def f__law_text : PF := bodyF 1 2 B__law_text
theorem sc__law_text : FnScope N__law_text ["version"] (defScope (top 27)) := ⟨rfl, rfl, rfl, nd__law_text, rfl, by decide +kernel, by decide +kernel⟩
section
variable {P : Program} {w : World} {K : PySem.W.Frag} {mg : Str → Option Value} {base : Heap}
theorem fo__law_text (C : W0 w K mg base) {fd : FuncData} (F : FunD K "_law_text" "_law_text" (defArgs (top 27)) (defBody (top 27)) (defScope (top 27)) [] [] (He.ga K "_law_text") fd) : FnOk P w K mg base (L2.CX P w) 1 (He.ga K "_law_text") fd ["version"] (spP K (TbOf tf tl K) 1 f__law_text) := by
  refine fn_pmT (p := ("_law_text", none)) F sc__law_text fun A outer s H E r => ?_
  have tk : Takes (cxOf (L2.CX P w) P w K mg base N__law_text "_law_text" (defScope (top 27)) (He.ga K "_law_text") (.ref (He.codeOf K ("_law_text", none))) A outer s H E) (WF E) := takes_of rfl rfl rfl rfl
  have tL := takes_toL tk
  have fm : Frm (cxOf (L2.CX P w) P w K mg base N__law_text "_law_text" (defScope (top 27)) (He.ga K "_law_text") (.ref (He.codeOf K ("_law_text", none))) A outer s H E) s.heap.objs.size := ⟨⟨_, _, rfl, rfl⟩, rfl⟩
  have hp : PassesOwn (model P w) _ _ _ := passes_of (X := cxOf (L2.CX P w) P w K mg base N__law_text "_law_text" (defScope (top 27)) (He.ga K "_law_text") (.ref (He.codeOf K ("_law_text", none))) A outer s H E) rfl
  exact ((pmb_one (pms_ret (pm_add (met_join pm_str (pma_cons (pm_lc (own := [("part", 1)]) rfl nd__law_text (pmi_val (pm_sl (pm_var 0) pmo_none (pmo_some pm_int))) (blkOk_by (by with_unfolding_all rfl)) tL fm (by decide) (fun _ _ _ _ _ _ => (pmg_name 1 nd__law_text)) (fun _ _ _ _ _ _ _ t1 => pmts_nil) (fun _ _ _ _ _ _ _ t1 => (pc_str rfl (C.free 37 rfl) (pm_var 1)))) pma_nil)) (pm_ifexp (pmt_cm (c_ne r) (pm_ix (pm_var 0) pm_int) (pm_tup pma_nil)) (pm_add pm_str (met_join pm_str (pma_cons (pm_lc (own := [("part", 1)]) rfl nd__law_text (pmi_val (pm_ix (pm_var 0) pm_int)) (blkOk_by (by with_unfolding_all rfl)) tL fm (by decide) (fun _ _ _ _ _ _ => (pmg_name 1 nd__law_text)) (fun _ _ _ _ _ _ _ t1 => pmts_nil) (fun _ _ _ _ _ _ _ t1 => (pc_str rfl (C.free 37 rfl) (pm_var 1)))) pma_nil))) pm_str)))) : PMB (cxOf (L2.CX P w) P w K mg base N__law_text "_law_text" (defScope (top 27)) (He.ga K "_law_text") (.ref (He.codeOf K ("_law_text", none))) A outer s H E) (TbOf tf tl K) (WF E) (defBody (top 27)) B__law_text)
theorem ok__law_text (C : W0 w K mg base) : OkD P w K mg base (TbOf tf tl K) 1 "_law_text" ["version"] f__law_text := C.okD 20 22 (d := dOf 27 "_law_text") rfl rfl rfl rfl rfl (fun fd F => fo__law_text C F) fun _ _ _ _ _ _ us hl => match us, hl with | [_], _ => rfl
end
/-! ### _law_kept -/
abbrev N__law_kept : List Str := ["one", "other"]
theorem nd__law_kept : N__law_kept.Nodup := by decide +kernel
def B__law_kept : Sm := sSeq (sIf (mTst (mOp (pure2 gEq) (mVar 0) (mVar 1))) (sRet (mC (.bl true))) (sNext)) (
  sSeq (sIf (mOr (mTst (mOp (pure2 gNe) (mOp fIx (mVar 0) (mC (.int 3))) (mTup (mNil)))) (mOr (mTst (mOp (pure2 gNe) (mOp fIx (mVar 1) (mC (.int 3))) (mTup (mNil)))) (mTst (mOp (pure2 gLt) (mCall f__law_key (mCons (mVar 1) (mNil))) (mCall f__law_key (mCons (mVar 0) (mNil))))))) (sRet (mC (.bl false))) (sNext)) (
  sRet (mIf (mTst (mOp (pure2 gGt) (mOp fIx (mVar 0) (mC (.int 0))) (mC (.int 0)))) (mOp (pure2 gEq) (mOp fIx (mVar 0) (mC (.int 0))) (mOp fIx (mVar 1) (mC (.int 0)))) (mIf (mTst (mOp (pure2 gGt) (mOp fIx (mVar 0) (mC (.int 1))) (mC (.int 0)))) (mOp (pure2 gEq) (mSl (mVar 0) (mNoPart) (mPart (mC (.int 2)))) (mSl (mVar 1) (mNoPart) (mPart (mC (.int 2))))) (mOp (pure2 gEq) (mSl (mVar 0) (mNoPart) (mPart (mC (.int 3)))) (mSl (mVar 1) (mNoPart) (mPart (mC (.int 3)))))))))
def f__law_kept : PF := bodyF 2 2 B__law_kept
theorem sc__law_kept : FnScope N__law_kept ["one", "other"] (defScope (top 28)) := ⟨rfl, rfl, rfl, nd__law_kept, rfl, by decide +kernel, by decide +kernel⟩
section
variable {P : Program} {w : World} {K : PySem.W.Frag} {mg : Str → Option Value} {base : Heap}
theorem fo__law_kept (C : W0 w K mg base) {fd : FuncData} (F : FunD K "_law_kept" "_law_kept" (defArgs (top 28)) (defBody (top 28)) (defScope (top 28)) [] [] (He.ga K "_law_kept") fd) : FnOk P w K mg base (L2.CX P w) 2 (He.ga K "_law_kept") fd ["one", "other"] (spP K (TbOf tf tl K) 2 f__law_kept) := by
  refine fn_pmT (p := ("_law_kept", none)) F sc__law_kept fun A outer s H E r => ?_
  have tk : Takes (cxOf (L2.CX P w) P w K mg base N__law_kept "_law_kept" (defScope (top 28)) (He.ga K "_law_kept") (.ref (He.codeOf K ("_law_kept", none))) A outer s H E) (WF E) := takes_of rfl rfl rfl rfl
  have tL := takes_toL tk
  have fm : Frm (cxOf (L2.CX P w) P w K mg base N__law_kept "_law_kept" (defScope (top 28)) (He.ga K "_law_kept") (.ref (He.codeOf K ("_law_kept", none))) A outer s H E) s.heap.objs.size := ⟨⟨_, _, rfl, rfl⟩, rfl⟩
  have hp : PassesOwn (model P w) _ _ _ := passes_of (X := cxOf (L2.CX P w) P w K mg base N__law_kept "_law_kept" (defScope (top 28)) (He.ga K "_law_kept") (.ref (He.codeOf K ("_law_kept", none))) A outer s H E) rfl
  exact ((pmb_cons (pms_if (pmt_cm (c_eq r) (pm_var 0) (pm_var 1)) (pmb_one (pms_ret pm_bl)) pmb_nil) (
  (pmb_cons (pms_if (pmt_w (pmw_or (pmt_cm (c_ne r) (pm_ix (pm_var 0) pm_int) (pm_tup pma_nil)) (pmw_or (pmt_cm (c_ne r) (pm_ix (pm_var 1) pm_int) (pm_tup pma_nil)) (pmw_or1 (pmt_cm (c_lt r) (pm_callD (ok__law_key C) r (by decide) (takesL_pass tL) rfl (pma_cons (pm_var 1) pma_nil) (len_cons len_nil)) (pm_callD (ok__law_key C) r (by decide) (takesL_pass tL) rfl (pma_cons (pm_var 0) pma_nil) (len_cons len_nil))))))) (pmb_one (pms_ret pm_bl)) pmb_nil) (
  (pmb_one (pms_ret (pm_ifexp (pmt_cm (c_gt r) (pm_ix (pm_var 0) pm_int) pm_int) (pm_cm (c_eq r) (pm_ix (pm_var 0) pm_int) (pm_ix (pm_var 1) pm_int)) (pm_ifexp (pmt_cm (c_gt r) (pm_ix (pm_var 0) pm_int) pm_int) (pm_cm (c_eq r) (pm_sl (pm_var 0) pmo_none (pmo_some pm_int)) (pm_sl (pm_var 1) pmo_none (pmo_some pm_int))) (pm_cm (c_eq r) (pm_sl (pm_var 0) pmo_none (pmo_some pm_int)) (pm_sl (pm_var 1) pmo_none (pmo_some pm_int))))))))))) : PMB (cxOf (L2.CX P w) P w K mg base N__law_kept "_law_kept" (defScope (top 28)) (He.ga K "_law_kept") (.ref (He.codeOf K ("_law_kept", none))) A outer s H E) (TbOf tf tl K) (WF E) (defBody (top 28)) B__law_kept)
theorem ok__law_kept (C : W0 w K mg base) : OkD P w K mg base (TbOf tf tl K) 2 "_law_kept" ["one", "other"] f__law_kept := C.okD 21 23 (d := dOf 28 "_law_kept") rfl rfl rfl rfl rfl (fun fd F => fo__law_kept C F) fun _ _ _ _ _ _ us hl => match us, hl with | [_, _], _ => rfl
end
/-! ### read_version -/
abbrev N_read_version : List Str := ["text", "plain", "head", "mark", "tail", "words", "numbers", "parts", "word"]
theorem nd_read_version : N_read_version.Nodup := by decide +kernel
def B_read_version : Sm := sSeq (sSet 1 (mOp fIx (mMeth "str" mtPart (mVar 0) (mCons (mC (.str "+")) (mNil))) (mC (.int 0)))) (
  sSeq (sAsg (gTp 3 (gsCons (gNm 2) (gsCons (gNm 3) (gsCons (gNm 4) (gsNil))))) (mMeth "str" mtPart (mVar 1) (mCons (mC (.str "-")) (mNil)))) (
  sSeq (sSet 5 (mMeth "str" mtSplit (mVar 2) (mCons (mC (.str ".")) (mNil)))) (
  sSeq (sIf (mOr (mTst (mOp (pure2 gNe) (mCall fLen (mCons (mVar 5) mNil)) (mC (.int 3)))) (mOr (mAnd (mTst (mOp (pure2 gNe) (mVar 3) (mC (.str "")))) (mTst (mOp (pure2 gEq) (mVar 4) (mC (.str ""))))) (mAnd (mTst (mOp (pure2 gIn) (mC (.str "+")) (mVar 0))) (mTst (mOp (pure2 gEq) (mOp fIx (mMeth "str" mtPart (mVar 0) (mCons (mC (.str "+")) (mNil))) (mC (.int 2))) (mC (.str ""))))))) (sRaise "VersionError") (sNext)) (
  sSeq (sSet 6 (mLc [8] (mSrc (mVar 5)) (gNm 8) (mYes) (mCall f_read_number (mCons (mVar 8) (mNil))))) (
  sSeq (sSet 7 (mIf (mTst (mOp (pure2 gNe) (mVar 3) (mC (.str "")))) (mGenL [8] excs finTup (mSrc (mMeth "str" mtSplit (mVar 4) (mCons (mC (.str ".")) (mNil)))) (gNm 8) (mYes) (mCall f_read_part (mCons (mVar 8) (mNil)))) (mTup (mNil)))) (
  sRet (mTup (mCons (mOp fIx (mVar 6) (mC (.int 0))) (mCons (mOp fIx (mVar 6) (mC (.int 1))) (mCons (mOp fIx (mVar 6) (mC (.int 2))) (mCons (mVar 7) (mNil))))))))))))
def f_read_version : PF := bodyF 1 9 B_read_version
theorem sc_read_version : FnScope N_read_version ["text"] (defScope (top 6)) := ⟨rfl, rfl, rfl, nd_read_version, rfl, by decide +kernel, by decide +kernel⟩
section
variable {P : Program} {w : World} {K : PySem.W.Frag} {mg : Str → Option Value} {base : Heap}
theorem fo_read_version (C : W0 w K mg base) {fd : FuncData} (F : FunD K "read_version" "read_version" (defArgs (top 6)) (defBody (top 6)) (defScope (top 6)) [] [] (He.ga K "read_version") fd) : FnOk P w K mg base (L2.CX P w) 11 (He.ga K "read_version") fd ["text"] (spP K (TbOf tf tl K) 1 f_read_version) := by
  refine fn_pmT (p := ("read_version", none)) F sc_read_version fun A outer s H E r => ?_
  have tk : Takes (cxOf (L2.CX P w) P w K mg base N_read_version "read_version" (defScope (top 6)) (He.ga K "read_version") (.ref (He.codeOf K ("read_version", none))) A outer s H E) (WF E) := takes_of rfl rfl rfl rfl
  have tL := takes_toL tk
  have fm : Frm (cxOf (L2.CX P w) P w K mg base N_read_version "read_version" (defScope (top 6)) (He.ga K "read_version") (.ref (He.codeOf K ("read_version", none))) A outer s H E) s.heap.objs.size := ⟨⟨_, _, rfl, rfl⟩, rfl⟩
  have hp : PassesOwn (model P w) _ _ _ := passes_of (X := cxOf (L2.CX P w) P w K mg base N_read_version "read_version" (defScope (top 6)) (He.ga K "read_version") (.ref (He.codeOf K ("read_version", none))) A outer s H E) rfl
  exact ((pmb_cons (pms_set 1 (pm_ix (met_partition (pm_var 0) (pma_cons pm_str pma_nil)) pm_int) nd_read_version) (
  (pmb_cons (pms_asg (pmg_tup rfl (pmgs_cons (pmg_name 2 nd_read_version) (pmgs_cons (pmg_name 3 nd_read_version) (pmgs_cons (pmg_name 4 nd_read_version) pmgs_nil)))) (met_partition (pm_var 1) (pma_cons pm_str pma_nil))) (
  (pmb_cons (pms_set 5 (met_split (pm_var 2) (pma_cons pm_str pma_nil)) nd_read_version) (
  (pmb_cons (pms_if (pmt_w (pmw_or (pmt_cm (c_ne r) (pc_len rfl (C.free 32 rfl) (pm_var 5)) pm_int) (pmw_or (pmt_w (pmw_and (pmt_cm (c_ne r) (pm_var 3) pm_str) (pmw_and1 (pmt_cm (c_eq r) (pm_var 4) pm_str)))) (pmw_or1 (pmt_w (pmw_and (pmt_cm (c_in r) pm_str (pm_var 0)) (pmw_and1 (pmt_cm (c_eq r) (pm_ix (met_partition (pm_var 0) (pma_cons pm_str pma_nil)) pm_int) pm_str)))))))) (pmb_one (pms_raiseX rfl tk (C.d.fact 41 rfl) (C.glo 1 rfl) rfl)) pmb_nil) (
  (pmb_cons (pms_setLc 6 (own := [("word", 8)]) rfl nd_read_version rfl rfl rfl (pmi_val (pm_var 5)) (blkOk_by (by with_unfolding_all rfl)) tL fm (by decide) (fun _ _ _ _ _ _ => (pmg_name 8 nd_read_version)) (fun _ _ _ _ _ _ _ t1 => pmts_nil) (fun _ _ _ _ _ _ _ t1 => (pm_callD (ok_read_number C) r (by decide) (takesL_pass t1) rfl (pma_cons (pm_var 8) pma_nil) (len_cons len_nil)))) (
  (pmb_cons (pms_set 7 (pm_ifexp (pmt_cm (c_ne r) (pm_var 3) pm_str) (pm_gTup (own := [("word", 8)]) (xs := excs) (Room.mono r (by decide : 5 + 5 ≤ 10)) rfl nd_read_version tL rfl (C.free 39 rfl) (C.tabs 0 rfl) (tb_mem 0 rfl) rfl ⟨(blkOk_by (by with_unfolding_all rfl)), by decide, rfl, rfl⟩ (pmi_val (met_split (pm_var 4) (pma_cons pm_str pma_nil))) (by decide) C.nosi (fun _ _ _ _ _ _ _ _ _ => (pmg_name 8 nd_read_version)) (fun _ _ _ _ _ _ _ _ _ _ r1 t1 => pmts_nil) (fun _ _ _ _ _ _ _ _ _ _ r1 t1 => (pm_callD (ok_read_part C) r1 (by decide) (takesL_pass t1) rfl (pma_cons (pm_var 8) pma_nil) (len_cons len_nil))) (by intro _; rfl)) (pm_tup pma_nil)) nd_read_version) (
  (pmb_one (pms_ret (pm_tup (pma_cons (pm_ix (pm_var 6) pm_int) (pma_cons (pm_ix (pm_var 6) pm_int) (pma_cons (pm_ix (pm_var 6) pm_int) (pma_cons (pm_var 7) pma_nil))))))))))))))))))) : PMB (cxOf (L2.CX P w) P w K mg base N_read_version "read_version" (defScope (top 6)) (He.ga K "read_version") (.ref (He.codeOf K ("read_version", none))) A outer s H E) (TbOf tf tl K) (WF E) (defBody (top 6)) B_read_version)
theorem ok_read_version (C : W0 w K mg base) : OkD P w K mg base (TbOf tf tl K) 11 "read_version" ["text"] f_read_version := C.okD 0 2 (d := dOf 6 "read_version") rfl rfl rfl rfl rfl (fun fd F => fo_read_version C F) fun _ _ _ _ _ _ us hl => match us, hl with | [_], _ => rfl
end
/-! ### newest -/
abbrev N_newest : List Str := ["versions", "found", "version"]
theorem nd_newest : N_newest.Nodup := by decide +kernel
def B_newest : Sm := sSeq (sSet 1 (mC .non)) (
  sSeq (sFor (mSrc (mVar 0)) (gNm 2) (
  sIf (mOr (mTst (mOp (pure2 gIsN) (mVar 1) (mC .non))) (mTst (mCall f_is_better (mCons (mVar 2) (mCons (mVar 1) (mNil)))))) (sSet 1 (mVar 2)) (sNext))) (
  sRet (mVar 1)))
def f_newest : PF := bodyF 1 3 B_newest
theorem sc_newest : FnScope N_newest ["versions"] (defScope (top 13)) := ⟨rfl, rfl, rfl, nd_newest, rfl, by decide +kernel, by decide +kernel⟩
section
variable {P : Program} {w : World} {K : PySem.W.Frag} {mg : Str → Option Value} {base : Heap}
theorem fo_newest (C : W0 w K mg base) {fd : FuncData} (F : FunD K "newest" "newest" (defArgs (top 13)) (defBody (top 13)) (defScope (top 13)) [] [] (He.ga K "newest") fd) : FnOk P w K mg base (L2.CX P w) 9 (He.ga K "newest") fd ["versions"] (spP K (TbOf tf tl K) 1 f_newest) := by
  refine fn_pmT (p := ("newest", none)) F sc_newest fun A outer s H E r => ?_
  have tk : Takes (cxOf (L2.CX P w) P w K mg base N_newest "newest" (defScope (top 13)) (He.ga K "newest") (.ref (He.codeOf K ("newest", none))) A outer s H E) (WF E) := takes_of rfl rfl rfl rfl
  have tL := takes_toL tk
  have fm : Frm (cxOf (L2.CX P w) P w K mg base N_newest "newest" (defScope (top 13)) (He.ga K "newest") (.ref (He.codeOf K ("newest", none))) A outer s H E) s.heap.objs.size := ⟨⟨_, _, rfl, rfl⟩, rfl⟩
  have hp : PassesOwn (model P w) _ _ _ := passes_of (X := cxOf (L2.CX P w) P w K mg base N_newest "newest" (defScope (top 13)) (He.ga K "newest") (.ref (He.codeOf K ("newest", none))) A outer s H E) rfl
  exact ((pmb_cons (pms_set 1 pm_non nd_newest) (
  (pmb_cons (pms_for hp rfl (pmi_val (pm_var 0)) (pmg_name 2 nd_newest) (pmb_one (pms_if (pmt_w (pmw_or (pmt_cm c_is (pm_var 1) pm_non) (pmw_or1 (pmt_val (pm_callD (ok_is_better C) r (by decide) (takesL_pass tL) rfl (pma_cons (pm_var 2) (pma_cons (pm_var 1) pma_nil)) (len_cons (len_cons len_nil))))))) (pmb_one (pms_set 1 (pm_var 2) nd_newest)) pmb_nil))) (
  (pmb_one (pms_ret (pm_var 1))))))) : PMB (cxOf (L2.CX P w) P w K mg base N_newest "newest" (defScope (top 13)) (He.ga K "newest") (.ref (He.codeOf K ("newest", none))) A outer s H E) (TbOf tf tl K) (WF E) (defBody (top 13)) B_newest)
theorem ok_newest (C : W0 w K mg base) : OkD P w K mg base (TbOf tf tl K) 9 "newest" ["versions"] f_newest := C.okD 7 9 (d := dOf 13 "newest") rfl rfl rfl rfl rfl (fun fd F => fo_newest C F) fun _ _ _ _ _ _ us hl => match us, hl with | [_], _ => rfl
end
/-! ### _law_plain -/
abbrev N__law_plain : List Str := ["told", "bad", "due", "kind", "k", "f"]
theorem nd__law_plain : N__law_plain.Nodup := by decide +kernel
def lam__law_plain_0 : M PV := mCall f_read_version (mCons (mC (.str "1.2")) (mNil))
theorem lamb__law_plain_0 {P : Program} {w : World} {K : PySem.W.Frag} {mg : Str → Option Value} {base : Heap} (C : W0 w K mg base) (A : Around) (outer : List Env) (s : Shared) (H : Hp) (E : XK) : LamB (cxOf (L2.CX P w) P w K mg base N__law_plain "_law_plain" (defScope (top 29)) (He.ga K "_law_plain") (.ref (He.codeOf K ("_law_plain", none))) A outer s H E) (TbOf tf tl K) 11 (lamG 29 0) lam__law_plain_0 :=
  ⟨LamX.lamS_by (by with_unfolding_all rfl), fun _ _ _ _ _ => rfl, fun E1 A1 outer1 s1 H1 f1 c1 r1 t1 => (pm_callD (ok_read_version C) r1 (by decide) (takesL_pass t1) rfl (pma_cons pm_str pma_nil) (len_cons len_nil))⟩
def lam__law_plain_1 : M PV := mCall f_read_version (mCons (mC (.str "1.2.3-")) (mNil))
theorem lamb__law_plain_1 {P : Program} {w : World} {K : PySem.W.Frag} {mg : Str → Option Value} {base : Heap} (C : W0 w K mg base) (A : Around) (outer : List Env) (s : Shared) (H : Hp) (E : XK) : LamB (cxOf (L2.CX P w) P w K mg base N__law_plain "_law_plain" (defScope (top 29)) (He.ga K "_law_plain") (.ref (He.codeOf K ("_law_plain", none))) A outer s H E) (TbOf tf tl K) 11 (lamG 29 1) lam__law_plain_1 :=
  ⟨LamX.lamS_by (by with_unfolding_all rfl), fun _ _ _ _ _ => rfl, fun E1 A1 outer1 s1 H1 f1 c1 r1 t1 => (pm_callD (ok_read_version C) r1 (by decide) (takesL_pass t1) rfl (pma_cons pm_str pma_nil) (len_cons len_nil))⟩
def lam__law_plain_2 : M PV := mCall f_read_version (mCons (mC (.str "1.2.3+")) (mNil))
theorem lamb__law_plain_2 {P : Program} {w : World} {K : PySem.W.Frag} {mg : Str → Option Value} {base : Heap} (C : W0 w K mg base) (A : Around) (outer : List Env) (s : Shared) (H : Hp) (E : XK) : LamB (cxOf (L2.CX P w) P w K mg base N__law_plain "_law_plain" (defScope (top 29)) (He.ga K "_law_plain") (.ref (He.codeOf K ("_law_plain", none))) A outer s H E) (TbOf tf tl K) 11 (lamG 29 2) lam__law_plain_2 :=
  ⟨LamX.lamS_by (by with_unfolding_all rfl), fun _ _ _ _ _ => rfl, fun E1 A1 outer1 s1 H1 f1 c1 r1 t1 => (pm_callD (ok_read_version C) r1 (by decide) (takesL_pass t1) rfl (pma_cons pm_str pma_nil) (len_cons len_nil))⟩
def lam__law_plain_3 : M PV := mCall f_read_version (mCons (mC (.str "01.2.3")) (mNil))
theorem lamb__law_plain_3 {P : Program} {w : World} {K : PySem.W.Frag} {mg : Str → Option Value} {base : Heap} (C : W0 w K mg base) (A : Around) (outer : List Env) (s : Shared) (H : Hp) (E : XK) : LamB (cxOf (L2.CX P w) P w K mg base N__law_plain "_law_plain" (defScope (top 29)) (He.ga K "_law_plain") (.ref (He.codeOf K ("_law_plain", none))) A outer s H E) (TbOf tf tl K) 11 (lamG 29 3) lam__law_plain_3 :=
  ⟨LamX.lamS_by (by with_unfolding_all rfl), fun _ _ _ _ _ => rfl, fun E1 A1 outer1 s1 H1 f1 c1 r1 t1 => (pm_callD (ok_read_version C) r1 (by decide) (takesL_pass t1) rfl (pma_cons pm_str pma_nil) (len_cons len_nil))⟩
def lam__law_plain_4 : M PV := mCall f_read_version (mCons (mC (.str "1.2.3-a..b")) (mNil))
theorem lamb__law_plain_4 {P : Program} {w : World} {K : PySem.W.Frag} {mg : Str → Option Value} {base : Heap} (C : W0 w K mg base) (A : Around) (outer : List Env) (s : Shared) (H : Hp) (E : XK) : LamB (cxOf (L2.CX P w) P w K mg base N__law_plain "_law_plain" (defScope (top 29)) (He.ga K "_law_plain") (.ref (He.codeOf K ("_law_plain", none))) A outer s H E) (TbOf tf tl K) 11 (lamG 29 4) lam__law_plain_4 :=
  ⟨LamX.lamS_by (by with_unfolding_all rfl), fun _ _ _ _ _ => rfl, fun E1 A1 outer1 s1 H1 f1 c1 r1 t1 => (pm_callD (ok_read_version C) r1 (by decide) (takesL_pass t1) rfl (pma_cons pm_str pma_nil) (len_cons len_nil))⟩
def lam__law_plain_5 : M PV := mCall f_read_version (mCons (mC (.str "1.2.3-01")) (mNil))
theorem lamb__law_plain_5 {P : Program} {w : World} {K : PySem.W.Frag} {mg : Str → Option Value} {base : Heap} (C : W0 w K mg base) (A : Around) (outer : List Env) (s : Shared) (H : Hp) (E : XK) : LamB (cxOf (L2.CX P w) P w K mg base N__law_plain "_law_plain" (defScope (top 29)) (He.ga K "_law_plain") (.ref (He.codeOf K ("_law_plain", none))) A outer s H E) (TbOf tf tl K) 11 (lamG 29 5) lam__law_plain_5 :=
  ⟨LamX.lamS_by (by with_unfolding_all rfl), fun _ _ _ _ _ => rfl, fun E1 A1 outer1 s1 H1 f1 c1 r1 t1 => (pm_callD (ok_read_version C) r1 (by decide) (takesL_pass t1) rfl (pma_cons pm_str pma_nil) (len_cons len_nil))⟩
def lam__law_plain_6 : M PV := mCall f_read_version (mCons (mC (.str "a.b.c")) (mNil))
theorem lamb__law_plain_6 {P : Program} {w : World} {K : PySem.W.Frag} {mg : Str → Option Value} {base : Heap} (C : W0 w K mg base) (A : Around) (outer : List Env) (s : Shared) (H : Hp) (E : XK) : LamB (cxOf (L2.CX P w) P w K mg base N__law_plain "_law_plain" (defScope (top 29)) (He.ga K "_law_plain") (.ref (He.codeOf K ("_law_plain", none))) A outer s H E) (TbOf tf tl K) 11 (lamG 29 6) lam__law_plain_6 :=
  ⟨LamX.lamS_by (by with_unfolding_all rfl), fun _ _ _ _ _ => rfl, fun E1 A1 outer1 s1 H1 f1 c1 r1 t1 => (pm_callD (ok_read_version C) r1 (by decide) (takesL_pass t1) rfl (pma_cons pm_str pma_nil) (len_cons len_nil))⟩
def lam__law_plain_7 : M PV := mCall f_read_number (mCons (mC (.str "")) (mNil))
theorem lamb__law_plain_7 {P : Program} {w : World} {K : PySem.W.Frag} {mg : Str → Option Value} {base : Heap} (C : W0 w K mg base) (A : Around) (outer : List Env) (s : Shared) (H : Hp) (E : XK) : LamB (cxOf (L2.CX P w) P w K mg base N__law_plain "_law_plain" (defScope (top 29)) (He.ga K "_law_plain") (.ref (He.codeOf K ("_law_plain", none))) A outer s H E) (TbOf tf tl K) 11 (lamG 29 7) lam__law_plain_7 :=
  ⟨LamX.lamS_by (by with_unfolding_all rfl), fun _ _ _ _ _ => rfl, fun E1 A1 outer1 s1 H1 f1 c1 r1 t1 => (pm_callD (ok_read_number C) r1 (by decide) (takesL_pass t1) rfl (pma_cons pm_str pma_nil) (len_cons len_nil))⟩
def lam__law_plain_8 : M PV := mCall f_read_number (mCons (mC (.str "1234567")) (mNil))
theorem lamb__law_plain_8 {P : Program} {w : World} {K : PySem.W.Frag} {mg : Str → Option Value} {base : Heap} (C : W0 w K mg base) (A : Around) (outer : List Env) (s : Shared) (H : Hp) (E : XK) : LamB (cxOf (L2.CX P w) P w K mg base N__law_plain "_law_plain" (defScope (top 29)) (He.ga K "_law_plain") (.ref (He.codeOf K ("_law_plain", none))) A outer s H E) (TbOf tf tl K) 11 (lamG 29 8) lam__law_plain_8 :=
  ⟨LamX.lamS_by (by with_unfolding_all rfl), fun _ _ _ _ _ => rfl, fun E1 A1 outer1 s1 H1 f1 c1 r1 t1 => (pm_callD (ok_read_number C) r1 (by decide) (takesL_pass t1) rfl (pma_cons pm_str pma_nil) (len_cons len_nil))⟩
def lam__law_plain_9 : M PV := mCall f_read_part (mCons (mC (.str "a_b")) (mNil))
theorem lamb__law_plain_9 {P : Program} {w : World} {K : PySem.W.Frag} {mg : Str → Option Value} {base : Heap} (C : W0 w K mg base) (A : Around) (outer : List Env) (s : Shared) (H : Hp) (E : XK) : LamB (cxOf (L2.CX P w) P w K mg base N__law_plain "_law_plain" (defScope (top 29)) (He.ga K "_law_plain") (.ref (He.codeOf K ("_law_plain", none))) A outer s H E) (TbOf tf tl K) 11 (lamG 29 9) lam__law_plain_9 :=
  ⟨LamX.lamS_by (by with_unfolding_all rfl), fun _ _ _ _ _ => rfl, fun E1 A1 outer1 s1 H1 f1 c1 r1 t1 => (pm_callD (ok_read_part C) r1 (by decide) (takesL_pass t1) rfl (pma_cons pm_str pma_nil) (len_cons len_nil))⟩
def lam__law_plain_10 : M PV := mCall f_stepped (mCons (mTup (mCons (mC (.int 1)) (mCons (mC (.int 2)) (mCons (mC (.int 3)) (mCons (mTup (mNil)) (mNil)))))) (mCons (mC (.str "odd")) (mNil)))
theorem lamb__law_plain_10 {P : Program} {w : World} {K : PySem.W.Frag} {mg : Str → Option Value} {base : Heap} (C : W0 w K mg base) (A : Around) (outer : List Env) (s : Shared) (H : Hp) (E : XK) : LamB (cxOf (L2.CX P w) P w K mg base N__law_plain "_law_plain" (defScope (top 29)) (He.ga K "_law_plain") (.ref (He.codeOf K ("_law_plain", none))) A outer s H E) (TbOf tf tl K) 11 (lamG 29 10) lam__law_plain_10 :=
  ⟨LamX.lamS_by (by with_unfolding_all rfl), fun _ _ _ _ _ => rfl, fun E1 A1 outer1 s1 H1 f1 c1 r1 t1 => (pm_callD (ok_stepped C) r1 (by decide) (takesL_pass t1) rfl (pma_cons (pm_tup (pma_cons pm_int (pma_cons pm_int (pma_cons pm_int (pma_cons (pm_tup pma_nil) pma_nil))))) (pma_cons pm_str pma_nil)) (len_cons (len_cons len_nil)))⟩
def lam__law_plain_11 : M PV := mCall f_least_step (mCons (mTup (mNil)) (mCons (mTup (mCons (mC (.int 1)) (mCons (mC (.int 2)) (mCons (mC (.int 3)) (mCons (mTup (mNil)) (mNil)))))) (mCons (mC (.str "odd")) (mNil))))
theorem lamb__law_plain_11 {P : Program} {w : World} {K : PySem.W.Frag} {mg : Str → Option Value} {base : Heap} (C : W0 w K mg base) (A : Around) (outer : List Env) (s : Shared) (H : Hp) (E : XK) : LamB (cxOf (L2.CX P w) P w K mg base N__law_plain "_law_plain" (defScope (top 29)) (He.ga K "_law_plain") (.ref (He.codeOf K ("_law_plain", none))) A outer s H E) (TbOf tf tl K) 11 (lamG 29 11) lam__law_plain_11 :=
  ⟨LamX.lamS_by (by with_unfolding_all rfl), fun _ _ _ _ _ => rfl, fun E1 A1 outer1 s1 H1 f1 c1 r1 t1 => (pm_callD (ok_least_step C) r1 (by decide) (takesL_pass t1) rfl (pma_cons (pm_tup pma_nil) (pma_cons (pm_tup (pma_cons pm_int (pma_cons pm_int (pma_cons pm_int (pma_cons (pm_tup pma_nil) pma_nil))))) (pma_cons pm_str pma_nil))) (len_cons (len_cons (len_cons len_nil))))⟩
def B__law_plain : Sm := sSeq (sSet 0 (mLst (mCons (mCall f_read_version (mCons (mC (.str "1.2.3-a.1+x")) (mNil))) (mCons (mCall f_read_version (mCons (mC (.str "0.0.0")) (mNil))) (mCons (mCall f_told_version (mCons (mTup (mCons (mC (.int 1)) (mCons (mC (.int 2)) (mCons (mC (.int 3)) (mCons (mTup (mCons (mC (.str "b")) (mCons (mC (.int 4)) (mNil)))) (mNil)))))) (mNil))) (mCons (mCall f_read_number (mCons (mC (.str "120")) (mNil))) (mCons (mCall f_read_part (mCons (mC (.str "12")) (mNil))) (mCons (mCall f_read_part (mCons (mC (.str "1a")) (mNil))) (mNil))))))))) (
  sSeq (sSet 0 (mOp (fAdd) (mVar 0) (mLst (mCons (mOp (pure2 gGt) (mCall f_key_of (mCons (mTup (mCons (mC (.int 1)) (mCons (mC (.int 0)) (mCons (mC (.int 0)) (mCons (mTup (mNil)) (mNil)))))) (mNil))) (mCall f_key_of (mCons (mTup (mCons (mC (.int 1)) (mCons (mC (.int 0)) (mCons (mC (.int 0)) (mCons (mTup (mCons (mC (.int 9)) (mNil))) (mNil)))))) (mNil)))) (mCons (mCall f_order (mCons (mTup (mCons (mC (.int 1)) (mCons (mC (.int 0)) (mCons (mC (.int 0)) (mCons (mTup (mCons (mC (.int 1)) (mNil))) (mNil)))))) (mCons (mTup (mCons (mC (.int 1)) (mCons (mC (.int 0)) (mCons (mC (.int 0)) (mCons (mTup (mCons (mC (.str "a")) (mNil))) (mNil)))))) (mNil)))) (mCons (mCall f_order (mCons (mTup (mCons (mC (.int 1)) (mCons (mC (.int 0)) (mCons (mC (.int 0)) (mCons (mTup (mCons (mC (.str "a")) (mNil))) (mNil)))))) (mCons (mTup (mCons (mC (.int 1)) (mCons (mC (.int 0)) (mCons (mC (.int 0)) (mCons (mTup (mCons (mC (.str "a")) (mCons (mC (.int 0)) (mNil)))) (mNil)))))) (mNil)))) (mNil))))))) (
  sSeq (sSet 0 (mOp (fAdd) (mVar 0) (mLst (mCons (mCall f_in_order (mCons (mTup (mCons (mTup (mCons (mC (.int 1)) (mCons (mC (.int 0)) (mCons (mC (.int 0)) (mCons (mTup (mNil)) (mNil)))))) (mCons (mTup (mCons (mC (.int 0)) (mCons (mC (.int 9)) (mCons (mC (.int 0)) (mCons (mTup (mNil)) (mNil)))))) (mCons (mTup (mCons (mC (.int 1)) (mCons (mC (.int 0)) (mCons (mC (.int 0)) (mCons (mTup (mCons (mC (.str "z")) (mNil))) (mNil)))))) (mNil))))) (mNil))) (mCons (mCall f_newest (mCons (mTup (mCons (mTup (mCons (mC (.int 1)) (mCons (mC (.int 0)) (mCons (mC (.int 0)) (mCons (mTup (mNil)) (mNil)))))) (mCons (mTup (mCons (mC (.int 2)) (mCons (mC (.int 0)) (mCons (mC (.int 0)) (mCons (mTup (mCons (mC (.int 1)) (mNil))) (mNil)))))) (mNil)))) (mNil))) (mNil)))))) (
  sSeq (sSet 0 (mOp (fAdd) (mVar 0) (mLst (mCons (mCall f_newest (mCons (mTup (mCons (mTup (mCons (mC (.int 2)) (mCons (mC (.int 0)) (mCons (mC (.int 0)) (mCons (mTup (mCons (mC (.int 1)) (mNil))) (mNil)))))) (mCons (mTup (mCons (mC (.int 2)) (mCons (mC (.int 0)) (mCons (mC (.int 0)) (mCons (mTup (mCons (mC (.int 2)) (mNil))) (mNil)))))) (mNil)))) (mNil))) (mCons (mCall f_newest (mCons (mTup (mNil)) (mNil))) (mCons (mCall f_is_better (mCons (mTup (mCons (mC (.int 1)) (mCons (mC (.int 0)) (mCons (mC (.int 0)) (mCons (mTup (mNil)) (mNil)))))) (mCons (mTup (mCons (mC (.int 2)) (mCons (mC (.int 0)) (mCons (mC (.int 0)) (mCons (mTup (mCons (mC (.int 1)) (mNil))) (mNil)))))) (mNil)))) (mNil))))))) (
  sSeq (sSet 0 (mOp (fAdd) (mVar 0) (mLst (mCons (mLc [3] (mSrc (mC c_KINDS_OF_STEPS)) (gNm 3) (mYes) (mCall f_stepped (mCons (mTup (mCons (mC (.int 1)) (mCons (mC (.int 2)) (mCons (mC (.int 3)) (mCons (mTup (mNil)) (mNil)))))) (mCons (mVar 3) (mNil))))) (mCons (mLc [3] (mSrc (mC c_KINDS_OF_STEPS)) (gNm 3) (mYes) (mCall f_stepped (mCons (mTup (mCons (mC (.int 2)) (mCons (mC (.int 0)) (mCons (mC (.int 0)) (mCons (mTup (mCons (mC (.str "a")) (mNil))) (mNil)))))) (mCons (mVar 3) (mNil))))) (mNil)))))) (
  sSeq (sSet 0 (mOp (fAdd) (mVar 0) (mLst (mCons (mCall f_stepped (mCons (mTup (mCons (mC (.int 1)) (mCons (mC (.int 2)) (mCons (mC (.int 3)) (mCons (mTup (mCons (mC (.int 4)) (mNil))) (mNil)))))) (mCons (mC (.str "early")) (mNil)))) (mNil))))) (
  sSeq (sSet 0 (mOp (fAdd) (mVar 0) (mLst (mCons (mCall f_step_between (mCons (mTup (mCons (mC (.int 1)) (mCons (mC (.int 2)) (mCons (mC (.int 3)) (mCons (mTup (mNil)) (mNil)))))) (mCons (mTup (mCons (mC (.int 1)) (mCons (mC (.int 3)) (mCons (mC (.int 0)) (mCons (mTup (mNil)) (mNil)))))) (mNil)))) (mCons (mCall f_step_between (mCons (mTup (mCons (mC (.int 1)) (mCons (mC (.int 2)) (mCons (mC (.int 3)) (mCons (mTup (mNil)) (mNil)))))) (mCons (mTup (mCons (mC (.int 1)) (mCons (mC (.int 2)) (mCons (mC (.int 3)) (mCons (mTup (mCons (mC (.int 1)) (mNil))) (mNil)))))) (mNil)))) (mCons (mCall f_step_between (mCons (mTup (mCons (mC (.int 1)) (mCons (mC (.int 2)) (mCons (mC (.int 3)) (mCons (mTup (mNil)) (mNil)))))) (mCons (mTup (mCons (mC (.int 1)) (mCons (mC (.int 2)) (mCons (mC (.int 3)) (mCons (mTup (mNil)) (mNil)))))) (mNil)))) (mCons (mCall f_is_kept (mCons (mTup (mCons (mC (.int 0)) (mCons (mC (.int 2)) (mCons (mC (.int 3)) (mCons (mTup (mNil)) (mNil)))))) (mCons (mTup (mCons (mC (.int 0)) (mCons (mC (.int 2)) (mCons (mC (.int 9)) (mCons (mTup (mNil)) (mNil)))))) (mNil)))) (mCons (mCall f_is_kept (mCons (mTup (mCons (mC (.int 0)) (mCons (mC (.int 2)) (mCons (mC (.int 3)) (mCons (mTup (mNil)) (mNil)))))) (mCons (mTup (mCons (mC (.int 0)) (mCons (mC (.int 3)) (mCons (mC (.int 0)) (mCons (mTup (mNil)) (mNil)))))) (mNil)))) (mCons (mCall f_is_kept (mCons (mTup (mCons (mC (.int 0)) (mCons (mC (.int 0)) (mCons (mC (.int 3)) (mCons (mTup (mNil)) (mNil)))))) (mCons (mTup (mCons (mC (.int 0)) (mCons (mC (.int 0)) (mCons (mC (.int 4)) (mCons (mTup (mNil)) (mNil)))))) (mNil)))) (mCons (mCall (fZ f_groups_kept) (mCons (mTup (mCons (mTup (mCons (mC (.int 1)) (mCons (mC (.int 0)) (mCons (mC (.int 0)) (mCons (mTup (mNil)) (mNil)))))) (mCons (mTup (mCons (mC (.int 1)) (mCons (mC (.int 2)) (mCons (mC (.int 0)) (mCons (mTup (mNil)) (mNil)))))) (mCons (mTup (mCons (mC (.int 2)) (mCons (mC (.int 0)) (mCons (mC (.int 0)) (mCons (mTup (mNil)) (mNil)))))) (mCons (mTup (mCons (mC (.int 0)) (mCons (mC (.int 1)) (mCons (mC (.int 0)) (mCons (mTup (mNil)) (mNil)))))) (mNil)))))) (mNil))) (mCons (mCall f_least_step (mCons (mTup (mCons (mTup (mCons (mC (.int 1)) (mCons (mC (.int 0)) (mCons (mC (.int 1)) (mCons (mTup (mNil)) (mNil)))))) (mNil))) (mCons (mTup (mCons (mC (.int 1)) (mCons (mC (.int 0)) (mCons (mC (.int 0)) (mCons (mTup (mNil)) (mNil)))))) (mCons (mC (.str "fix")) (mNil))))) (mNil)))))))))))) (
  sHide 1 (sHide 1 (sHide 1 (sSeq (sIf (mOr (mBad 4 5 catch_VersionError "VersionError" "VersionError" [lam__law_plain_0,
  lam__law_plain_1,
  lam__law_plain_2,
  lam__law_plain_3,
  lam__law_plain_4,
  lam__law_plain_5,
  lam__law_plain_6,
  lam__law_plain_7,
  lam__law_plain_8,
  lam__law_plain_9,
  lam__law_plain_10,
  lam__law_plain_11]) (mOr (mTst (mOp (pure2 gNe) (mC c_KINDS_OF_STEPS) (mTup (mCons (mC (.str "great")) (mCons (mC (.str "small")) (mCons (mC (.str "fix")) (mCons (mC (.str "early")) (mNil)))))))) (mTst (mOp (pure2 gNe) (mCall fLen (mCons (mC c_SIGNS_OF_PARTS) mNil)) (mC (.int 63)))))) (sRet (mC (.bl false))) (sNext)) (
  sSeq (sSet 2 (mLst (mCons (mTup (mCons (mC (.int 1)) (mCons (mC (.int 2)) (mCons (mC (.int 3)) (mCons (mTup (mCons (mC (.str "a")) (mCons (mC (.int 1)) (mNil)))) (mNil)))))) (mCons (mTup (mCons (mC (.int 0)) (mCons (mC (.int 0)) (mCons (mC (.int 0)) (mCons (mTup (mNil)) (mNil)))))) (mCons (mC (.str "1.2.3-b.4")) (mCons (mC (.int 120)) (mCons (mC (.int 12)) (mCons (mC (.str "1a")) (mCons (mC (.bl true)) (mCons (mUn gNeg (mC (.int 1))) (mCons (mUn gNeg (mC (.int 1))) (mCons (mTup (mCons (mTup (mCons (mC (.int 0)) (mCons (mC (.int 9)) (mCons (mC (.int 0)) (mCons (mTup (mNil)) (mNil)))))) (mCons (mTup (mCons (mC (.int 1)) (mCons (mC (.int 0)) (mCons (mC (.int 0)) (mCons (mTup (mCons (mC (.str "z")) (mNil))) (mNil)))))) (mCons (mTup (mCons (mC (.int 1)) (mCons (mC (.int 0)) (mCons (mC (.int 0)) (mCons (mTup (mNil)) (mNil)))))) (mNil))))) (mCons (mTup (mCons (mC (.int 1)) (mCons (mC (.int 0)) (mCons (mC (.int 0)) (mCons (mTup (mNil)) (mNil)))))) (mCons (mTup (mCons (mC (.int 2)) (mCons (mC (.int 0)) (mCons (mC (.int 0)) (mCons (mTup (mCons (mC (.int 2)) (mNil))) (mNil)))))) (mCons (mC .non) (mCons (mC (.bl true)) (mCons (mLst (mCons (mTup (mCons (mC (.int 2)) (mCons (mC (.int 0)) (mCons (mC (.int 0)) (mCons (mTup (mNil)) (mNil)))))) (mCons (mTup (mCons (mC (.int 1)) (mCons (mC (.int 3)) (mCons (mC (.int 0)) (mCons (mTup (mNil)) (mNil)))))) (mCons (mTup (mCons (mC (.int 1)) (mCons (mC (.int 2)) (mCons (mC (.int 4)) (mCons (mTup (mNil)) (mNil)))))) (mCons (mTup (mCons (mC (.int 1)) (mCons (mC (.int 2)) (mCons (mC (.int 4)) (mCons (mTup (mCons (mC (.int 0)) (mNil))) (mNil)))))) (mNil)))))) (mCons (mLst (mCons (mTup (mCons (mC (.int 2)) (mCons (mC (.int 0)) (mCons (mC (.int 0)) (mCons (mTup (mNil)) (mNil)))))) (mCons (mTup (mCons (mC (.int 2)) (mCons (mC (.int 0)) (mCons (mC (.int 0)) (mCons (mTup (mNil)) (mNil)))))) (mCons (mTup (mCons (mC (.int 2)) (mCons (mC (.int 0)) (mCons (mC (.int 0)) (mCons (mTup (mNil)) (mNil)))))) (mCons (mTup (mCons (mC (.int 2)) (mCons (mC (.int 0)) (mCons (mC (.int 0)) (mCons (mTup (mCons (mC (.str "a")) (mCons (mC (.int 0)) (mNil)))) (mNil)))))) (mNil)))))) (mCons (mTup (mCons (mC (.int 1)) (mCons (mC (.int 2)) (mCons (mC (.int 3)) (mCons (mTup (mCons (mC (.int 5)) (mNil))) (mNil)))))) (mCons (mC (.str "small")) (mCons (mC (.str "early")) (mCons (mC (.str "")) (mCons (mC (.bl true)) (mCons (mC (.bl false)) (mCons (mC (.bl false)) (mCons (mTup (mCons (mTup (mCons (mTup (mCons (mC (.int 0)) (mCons (mC (.int 1)) (mCons (mC (.int 0)) (mCons (mTup (mNil)) (mNil)))))) (mNil))) (mCons (mTup (mCons (mTup (mCons (mC (.int 1)) (mCons (mC (.int 0)) (mCons (mC (.int 0)) (mCons (mTup (mNil)) (mNil)))))) (mCons (mTup (mCons (mC (.int 1)) (mCons (mC (.int 2)) (mCons (mC (.int 0)) (mCons (mTup (mNil)) (mNil)))))) (mNil)))) (mCons (mTup (mCons (mTup (mCons (mC (.int 2)) (mCons (mC (.int 0)) (mCons (mC (.int 0)) (mCons (mTup (mNil)) (mNil)))))) (mNil))) (mNil))))) (mCons (mTup (mCons (mC (.int 1)) (mCons (mC (.int 0)) (mCons (mC (.int 2)) (mCons (mTup (mNil)) (mNil)))))) (mNil)))))))))))))))))))))))))))) (
  sRet (mOp (pure2 gEq) (mVar 0) (mVar 2))))))))))))))
def f__law_plain : PF := bodyF 0 6 B__law_plain
theorem sc__law_plain : FnScope N__law_plain [] (defScope (top 29)) := ⟨rfl, rfl, rfl, nd__law_plain, rfl, by decide +kernel, by decide +kernel⟩
section
variable {P : Program} {w : World} {K : PySem.W.Frag} {mg : Str → Option Value} {base : Heap}
theorem fo__law_plain (C : W0 w K mg base) {fd : FuncData} (F : FunD K "_law_plain" "_law_plain" (defArgs (top 29)) (defBody (top 29)) (defScope (top 29)) [] [] (He.ga K "_law_plain") fd) : FnOk P w K mg base (L2.CX P w) 14 (He.ga K "_law_plain") fd [] (spP K (TbOf tf tl K) 0 f__law_plain) := by
  refine fn_pmT (p := ("_law_plain", none)) F sc__law_plain fun A outer s H E r => ?_
  have tk : Takes (cxOf (L2.CX P w) P w K mg base N__law_plain "_law_plain" (defScope (top 29)) (He.ga K "_law_plain") (.ref (He.codeOf K ("_law_plain", none))) A outer s H E) (WF E) := takes_of rfl rfl rfl rfl
  have tL := takes_toL tk
  have fm : Frm (cxOf (L2.CX P w) P w K mg base N__law_plain "_law_plain" (defScope (top 29)) (He.ga K "_law_plain") (.ref (He.codeOf K ("_law_plain", none))) A outer s H E) s.heap.objs.size := ⟨⟨_, _, rfl, rfl⟩, rfl⟩
  have hp : PassesOwn (model P w) _ _ _ := passes_of (X := cxOf (L2.CX P w) P w K mg base N__law_plain "_law_plain" (defScope (top 29)) (He.ga K "_law_plain") (.ref (He.codeOf K ("_law_plain", none))) A outer s H E) rfl
  exact ((pmb_cons (pms_set 0 (pm_lst (pma_cons (pm_callD (ok_read_version C) r (by decide) (takesL_pass tL) rfl (pma_cons pm_str pma_nil) (len_cons len_nil)) (pma_cons (pm_callD (ok_read_version C) r (by decide) (takesL_pass tL) rfl (pma_cons pm_str pma_nil) (len_cons len_nil)) (pma_cons (pm_callD (ok_told_version C) r (by decide) (takesL_pass tL) rfl (pma_cons (pm_tup (pma_cons pm_int (pma_cons pm_int (pma_cons pm_int (pma_cons (pm_tup (pma_cons pm_str (pma_cons pm_int pma_nil))) pma_nil))))) pma_nil) (len_cons len_nil)) (pma_cons (pm_callD (ok_read_number C) r (by decide) (takesL_pass tL) rfl (pma_cons pm_str pma_nil) (len_cons len_nil)) (pma_cons (pm_callD (ok_read_part C) r (by decide) (takesL_pass tL) rfl (pma_cons pm_str pma_nil) (len_cons len_nil)) (pma_cons (pm_callD (ok_read_part C) r (by decide) (takesL_pass tL) rfl (pma_cons pm_str pma_nil) (len_cons len_nil)) pma_nil))))))) nd__law_plain) (
  (pmb_cons (pms_set 0 (pm_add (pm_var 0) (pm_lst (pma_cons (pm_cm (c_gt r) (pm_callD (ok_key_of C) r (by decide) (takesL_pass tL) rfl (pma_cons (pm_tup (pma_cons pm_int (pma_cons pm_int (pma_cons pm_int (pma_cons (pm_tup pma_nil) pma_nil))))) pma_nil) (len_cons len_nil)) (pm_callD (ok_key_of C) r (by decide) (takesL_pass tL) rfl (pma_cons (pm_tup (pma_cons pm_int (pma_cons pm_int (pma_cons pm_int (pma_cons (pm_tup (pma_cons pm_int pma_nil)) pma_nil))))) pma_nil) (len_cons len_nil))) (pma_cons (pm_callD (ok_order C) r (by decide) (takesL_pass tL) rfl (pma_cons (pm_tup (pma_cons pm_int (pma_cons pm_int (pma_cons pm_int (pma_cons (pm_tup (pma_cons pm_int pma_nil)) pma_nil))))) (pma_cons (pm_tup (pma_cons pm_int (pma_cons pm_int (pma_cons pm_int (pma_cons (pm_tup (pma_cons pm_str pma_nil)) pma_nil))))) pma_nil)) (len_cons (len_cons len_nil))) (pma_cons (pm_callD (ok_order C) r (by decide) (takesL_pass tL) rfl (pma_cons (pm_tup (pma_cons pm_int (pma_cons pm_int (pma_cons pm_int (pma_cons (pm_tup (pma_cons pm_str pma_nil)) pma_nil))))) (pma_cons (pm_tup (pma_cons pm_int (pma_cons pm_int (pma_cons pm_int (pma_cons (pm_tup (pma_cons pm_str (pma_cons pm_int pma_nil))) pma_nil))))) pma_nil)) (len_cons (len_cons len_nil))) pma_nil))))) nd__law_plain) (
  (pmb_cons (pms_set 0 (pm_add (pm_var 0) (pm_lst (pma_cons (pm_callD (ok_in_order C) r (by decide) (takesL_pass tL) rfl (pma_cons (pm_tup (pma_cons (pm_tup (pma_cons pm_int (pma_cons pm_int (pma_cons pm_int (pma_cons (pm_tup pma_nil) pma_nil))))) (pma_cons (pm_tup (pma_cons pm_int (pma_cons pm_int (pma_cons pm_int (pma_cons (pm_tup pma_nil) pma_nil))))) (pma_cons (pm_tup (pma_cons pm_int (pma_cons pm_int (pma_cons pm_int (pma_cons (pm_tup (pma_cons pm_str pma_nil)) pma_nil))))) pma_nil)))) pma_nil) (len_cons len_nil)) (pma_cons (pm_callD (ok_newest C) r (by decide) (takesL_pass tL) rfl (pma_cons (pm_tup (pma_cons (pm_tup (pma_cons pm_int (pma_cons pm_int (pma_cons pm_int (pma_cons (pm_tup pma_nil) pma_nil))))) (pma_cons (pm_tup (pma_cons pm_int (pma_cons pm_int (pma_cons pm_int (pma_cons (pm_tup (pma_cons pm_int pma_nil)) pma_nil))))) pma_nil))) pma_nil) (len_cons len_nil)) pma_nil)))) nd__law_plain) (
  (pmb_cons (pms_set 0 (pm_add (pm_var 0) (pm_lst (pma_cons (pm_callD (ok_newest C) r (by decide) (takesL_pass tL) rfl (pma_cons (pm_tup (pma_cons (pm_tup (pma_cons pm_int (pma_cons pm_int (pma_cons pm_int (pma_cons (pm_tup (pma_cons pm_int pma_nil)) pma_nil))))) (pma_cons (pm_tup (pma_cons pm_int (pma_cons pm_int (pma_cons pm_int (pma_cons (pm_tup (pma_cons pm_int pma_nil)) pma_nil))))) pma_nil))) pma_nil) (len_cons len_nil)) (pma_cons (pm_callD (ok_newest C) r (by decide) (takesL_pass tL) rfl (pma_cons (pm_tup pma_nil) pma_nil) (len_cons len_nil)) (pma_cons (pm_callD (ok_is_better C) r (by decide) (takesL_pass tL) rfl (pma_cons (pm_tup (pma_cons pm_int (pma_cons pm_int (pma_cons pm_int (pma_cons (pm_tup pma_nil) pma_nil))))) (pma_cons (pm_tup (pma_cons pm_int (pma_cons pm_int (pma_cons pm_int (pma_cons (pm_tup (pma_cons pm_int pma_nil)) pma_nil))))) pma_nil)) (len_cons (len_cons len_nil))) pma_nil))))) nd__law_plain) (
  (pmb_cons (pms_set 0 (pm_add (pm_var 0) (pm_lst (pma_cons (pm_lc (own := [("kind", 3)]) rfl nd__law_plain (pmi_val (con_KINDS_OF_STEPS C rfl)) (blkOk_by (by with_unfolding_all rfl)) tL fm (by decide) (fun _ _ _ _ _ _ => (pmg_name 3 nd__law_plain)) (fun _ _ _ _ _ _ _ t1 => pmts_nil) (fun _ _ _ _ _ _ _ t1 => (pm_callD (ok_stepped C) r (by decide) (takesL_pass t1) rfl (pma_cons (pm_tup (pma_cons pm_int (pma_cons pm_int (pma_cons pm_int (pma_cons (pm_tup pma_nil) pma_nil))))) (pma_cons (pm_var 3) pma_nil)) (len_cons (len_cons len_nil))))) (pma_cons (pm_lc (own := [("kind", 3)]) rfl nd__law_plain (pmi_val (con_KINDS_OF_STEPS C rfl)) (blkOk_by (by with_unfolding_all rfl)) tL fm (by decide) (fun _ _ _ _ _ _ => (pmg_name 3 nd__law_plain)) (fun _ _ _ _ _ _ _ t1 => pmts_nil) (fun _ _ _ _ _ _ _ t1 => (pm_callD (ok_stepped C) r (by decide) (takesL_pass t1) rfl (pma_cons (pm_tup (pma_cons pm_int (pma_cons pm_int (pma_cons pm_int (pma_cons (pm_tup (pma_cons pm_str pma_nil)) pma_nil))))) (pma_cons (pm_var 3) pma_nil)) (len_cons (len_cons len_nil))))) pma_nil)))) nd__law_plain) (
  (pmb_cons (pms_set 0 (pm_add (pm_var 0) (pm_lst (pma_cons (pm_callD (ok_stepped C) r (by decide) (takesL_pass tL) rfl (pma_cons (pm_tup (pma_cons pm_int (pma_cons pm_int (pma_cons pm_int (pma_cons (pm_tup (pma_cons pm_int pma_nil)) pma_nil))))) (pma_cons pm_str pma_nil)) (len_cons (len_cons len_nil))) pma_nil))) nd__law_plain) (
  (pmb_cons (pms_set 0 (pm_add (pm_var 0) (pm_lst (pma_cons (pm_callD (ok_step_between C) r (by decide) (takesL_pass tL) rfl (pma_cons (pm_tup (pma_cons pm_int (pma_cons pm_int (pma_cons pm_int (pma_cons (pm_tup pma_nil) pma_nil))))) (pma_cons (pm_tup (pma_cons pm_int (pma_cons pm_int (pma_cons pm_int (pma_cons (pm_tup pma_nil) pma_nil))))) pma_nil)) (len_cons (len_cons len_nil))) (pma_cons (pm_callD (ok_step_between C) r (by decide) (takesL_pass tL) rfl (pma_cons (pm_tup (pma_cons pm_int (pma_cons pm_int (pma_cons pm_int (pma_cons (pm_tup pma_nil) pma_nil))))) (pma_cons (pm_tup (pma_cons pm_int (pma_cons pm_int (pma_cons pm_int (pma_cons (pm_tup (pma_cons pm_int pma_nil)) pma_nil))))) pma_nil)) (len_cons (len_cons len_nil))) (pma_cons (pm_callD (ok_step_between C) r (by decide) (takesL_pass tL) rfl (pma_cons (pm_tup (pma_cons pm_int (pma_cons pm_int (pma_cons pm_int (pma_cons (pm_tup pma_nil) pma_nil))))) (pma_cons (pm_tup (pma_cons pm_int (pma_cons pm_int (pma_cons pm_int (pma_cons (pm_tup pma_nil) pma_nil))))) pma_nil)) (len_cons (len_cons len_nil))) (pma_cons (pm_callD (ok_is_kept C) r (by decide) (takesL_pass tL) rfl (pma_cons (pm_tup (pma_cons pm_int (pma_cons pm_int (pma_cons pm_int (pma_cons (pm_tup pma_nil) pma_nil))))) (pma_cons (pm_tup (pma_cons pm_int (pma_cons pm_int (pma_cons pm_int (pma_cons (pm_tup pma_nil) pma_nil))))) pma_nil)) (len_cons (len_cons len_nil))) (pma_cons (pm_callD (ok_is_kept C) r (by decide) (takesL_pass tL) rfl (pma_cons (pm_tup (pma_cons pm_int (pma_cons pm_int (pma_cons pm_int (pma_cons (pm_tup pma_nil) pma_nil))))) (pma_cons (pm_tup (pma_cons pm_int (pma_cons pm_int (pma_cons pm_int (pma_cons (pm_tup pma_nil) pma_nil))))) pma_nil)) (len_cons (len_cons len_nil))) (pma_cons (pm_callD (ok_is_kept C) r (by decide) (takesL_pass tL) rfl (pma_cons (pm_tup (pma_cons pm_int (pma_cons pm_int (pma_cons pm_int (pma_cons (pm_tup pma_nil) pma_nil))))) (pma_cons (pm_tup (pma_cons pm_int (pma_cons pm_int (pma_cons pm_int (pma_cons (pm_tup pma_nil) pma_nil))))) pma_nil)) (len_cons (len_cons len_nil))) (pma_cons (pm_callD (OkD.Z (ok_groups_kept C)) r (by decide) (takesL_pass tL) rfl (pma_cons (pm_tup (pma_cons (pm_tup (pma_cons pm_int (pma_cons pm_int (pma_cons pm_int (pma_cons (pm_tup pma_nil) pma_nil))))) (pma_cons (pm_tup (pma_cons pm_int (pma_cons pm_int (pma_cons pm_int (pma_cons (pm_tup pma_nil) pma_nil))))) (pma_cons (pm_tup (pma_cons pm_int (pma_cons pm_int (pma_cons pm_int (pma_cons (pm_tup pma_nil) pma_nil))))) (pma_cons (pm_tup (pma_cons pm_int (pma_cons pm_int (pma_cons pm_int (pma_cons (pm_tup pma_nil) pma_nil))))) pma_nil))))) pma_nil) (len_cons len_nil)) (pma_cons (pm_callD (ok_least_step C) r (by decide) (takesL_pass tL) rfl (pma_cons (pm_tup (pma_cons (pm_tup (pma_cons pm_int (pma_cons pm_int (pma_cons pm_int (pma_cons (pm_tup pma_nil) pma_nil))))) pma_nil)) (pma_cons (pm_tup (pma_cons pm_int (pma_cons pm_int (pma_cons pm_int (pma_cons (pm_tup pma_nil) pma_nil))))) (pma_cons pm_str pma_nil))) (len_cons (len_cons (len_cons len_nil)))) pma_nil)))))))))) nd__law_plain) (
  (pmb_lams 1 (by decide) (pa_lamC (pe_lamE (C.tabL 0 rfl) rfl (C.one 0 rfl).1 (C.one 0 rfl).2 (LamX.lamS_by (by with_unfolding_all rfl))) (pa_lamC (pe_lamE (C.tabL 0 rfl) rfl (C.one 0 rfl).1 (C.one 0 rfl).2 (LamX.lamS_by (by with_unfolding_all rfl))) (pa_lamC (pe_lamE (C.tabL 0 rfl) rfl (C.one 0 rfl).1 (C.one 0 rfl).2 (LamX.lamS_by (by with_unfolding_all rfl))) (pa_lamC (pe_lamE (C.tabL 0 rfl) rfl (C.one 0 rfl).1 (C.one 0 rfl).2 (LamX.lamS_by (by with_unfolding_all rfl))) (pa_lamC (pe_lamE (C.tabL 0 rfl) rfl (C.one 0 rfl).1 (C.one 0 rfl).2 (LamX.lamS_by (by with_unfolding_all rfl))) pa_lam0))))) nd__law_plain (pmbl_more 1 (by decide) (pa_lamC (pe_lamE (C.tabL 0 rfl) rfl (C.one 0 rfl).1 (C.one 0 rfl).2 (LamX.lamS_by (by with_unfolding_all rfl))) (pa_lamC (pe_lamE (C.tabL 0 rfl) rfl (C.one 0 rfl).1 (C.one 0 rfl).2 (LamX.lamS_by (by with_unfolding_all rfl))) (pa_lamC (pe_lamE (C.tabL 0 rfl) rfl (C.one 0 rfl).1 (C.one 0 rfl).2 (LamX.lamS_by (by with_unfolding_all rfl))) (pa_lamC (pe_lamE (C.tabL 0 rfl) rfl (C.one 0 rfl).1 (C.one 0 rfl).2 (LamX.lamS_by (by with_unfolding_all rfl))) (pa_lamC (pe_lamE (C.tabL 0 rfl) rfl (C.one 0 rfl).1 (C.one 0 rfl).2 (LamX.lamS_by (by with_unfolding_all rfl))) pa_lam0))))) nd__law_plain (pmbl_more 1 (by decide) (pa_lamC (pe_lamE (C.tabL 0 rfl) rfl (C.one 0 rfl).1 (C.one 0 rfl).2 (LamX.lamS_by (by with_unfolding_all rfl))) (pa_lamC (pe_lamE (C.tabL 0 rfl) rfl (C.one 0 rfl).1 (C.one 0 rfl).2 (LamX.lamS_by (by with_unfolding_all rfl))) pa_lam0)) nd__law_plain (pmbl_if (pmtl_w (pmwl_or (ptl_bad (k := 11) (ik := 4) (jf := 5) (ib := 1) (Room.mono r (by decide : 11 + 2 ≤ 13)) (by decide) rfl nd__law_plain (told__law_told C) (by exact (.cons (lamb__law_plain_0 C _ _ _ _ _) (.cons (lamb__law_plain_1 C _ _ _ _ _) (.cons (lamb__law_plain_2 C _ _ _ _ _) (.cons (lamb__law_plain_3 C _ _ _ _ _) (.cons (lamb__law_plain_4 C _ _ _ _ _) (.cons (lamb__law_plain_5 C _ _ _ _ _) (.cons (lamb__law_plain_6 C _ _ _ _ _) (.cons (lamb__law_plain_7 C _ _ _ _ _) (.cons (lamb__law_plain_8 C _ _ _ _ _) (.cons (lamb__law_plain_9 C _ _ _ _ _) (.cons (lamb__law_plain_10 C _ _ _ _ _) (.cons (lamb__law_plain_11 C _ _ _ _ _) .nil))))))))))))) tL ⟨⟨_, _, rfl, rfl⟩, rfl⟩ rfl (C.free 29 rfl) rfl rfl rfl (by decide) (blkOk_by (by with_unfolding_all rfl)) (by first | exact Or.inl rfl | exact Or.inr (Or.inl rfl) | exact Or.inr (Or.inr rfl)) (by decide) (by decide) (by decide) (by decide) (by decide) (by decide) rfl (fun _ _ _ _ _ _ => pg_tup rfl (pgs_cons (pg_name (i := 4) nd__law_plain rfl (by first | exact Or.inl rfl | exact Or.inr rfl)) (pgs_cons (pg_name (i := 5) nd__law_plain rfl (by first | exact Or.inl rfl | exact Or.inr rfl)) pgs_nil))) (fun _ _ _ _ _ _ => ⟨rfl, (by first | exact Or.inl rfl | exact Or.inr (Or.inl rfl) | exact Or.inr (Or.inr rfl)), (by first | exact Or.inl rfl | exact Or.inr (Or.inl rfl) | exact Or.inr (Or.inr rfl)), rfl⟩)) (pmw_or (pmt_cm (c_ne r) (con_KINDS_OF_STEPS C rfl) (pm_tup (pma_cons pm_str (pma_cons pm_str (pma_cons pm_str (pma_cons pm_str pma_nil)))))) (pmw_or1 (pmt_cm (c_ne r) (pc_len rfl (C.free 32 rfl) (con_SIGNS_OF_PARTS C rfl)) pm_int))))) (pmb_one (pms_ret pm_bl)) pmb_nil (pmb_cons (pms_set 2 (pm_lst (pma_cons (pm_tup (pma_cons pm_int (pma_cons pm_int (pma_cons pm_int (pma_cons (pm_tup (pma_cons pm_str (pma_cons pm_int pma_nil))) pma_nil))))) (pma_cons (pm_tup (pma_cons pm_int (pma_cons pm_int (pma_cons pm_int (pma_cons (pm_tup pma_nil) pma_nil))))) (pma_cons pm_str (pma_cons pm_int (pma_cons pm_int (pma_cons pm_str (pma_cons pm_bl (pma_cons (pm_neg pm_int) (pma_cons (pm_neg pm_int) (pma_cons (pm_tup (pma_cons (pm_tup (pma_cons pm_int (pma_cons pm_int (pma_cons pm_int (pma_cons (pm_tup pma_nil) pma_nil))))) (pma_cons (pm_tup (pma_cons pm_int (pma_cons pm_int (pma_cons pm_int (pma_cons (pm_tup (pma_cons pm_str pma_nil)) pma_nil))))) (pma_cons (pm_tup (pma_cons pm_int (pma_cons pm_int (pma_cons pm_int (pma_cons (pm_tup pma_nil) pma_nil))))) pma_nil)))) (pma_cons (pm_tup (pma_cons pm_int (pma_cons pm_int (pma_cons pm_int (pma_cons (pm_tup pma_nil) pma_nil))))) (pma_cons (pm_tup (pma_cons pm_int (pma_cons pm_int (pma_cons pm_int (pma_cons (pm_tup (pma_cons pm_int pma_nil)) pma_nil))))) (pma_cons pm_non (pma_cons pm_bl (pma_cons (pm_lst (pma_cons (pm_tup (pma_cons pm_int (pma_cons pm_int (pma_cons pm_int (pma_cons (pm_tup pma_nil) pma_nil))))) (pma_cons (pm_tup (pma_cons pm_int (pma_cons pm_int (pma_cons pm_int (pma_cons (pm_tup pma_nil) pma_nil))))) (pma_cons (pm_tup (pma_cons pm_int (pma_cons pm_int (pma_cons pm_int (pma_cons (pm_tup pma_nil) pma_nil))))) (pma_cons (pm_tup (pma_cons pm_int (pma_cons pm_int (pma_cons pm_int (pma_cons (pm_tup (pma_cons pm_int pma_nil)) pma_nil))))) pma_nil))))) (pma_cons (pm_lst (pma_cons (pm_tup (pma_cons pm_int (pma_cons pm_int (pma_cons pm_int (pma_cons (pm_tup pma_nil) pma_nil))))) (pma_cons (pm_tup (pma_cons pm_int (pma_cons pm_int (pma_cons pm_int (pma_cons (pm_tup pma_nil) pma_nil))))) (pma_cons (pm_tup (pma_cons pm_int (pma_cons pm_int (pma_cons pm_int (pma_cons (pm_tup pma_nil) pma_nil))))) (pma_cons (pm_tup (pma_cons pm_int (pma_cons pm_int (pma_cons pm_int (pma_cons (pm_tup (pma_cons pm_str (pma_cons pm_int pma_nil))) pma_nil))))) pma_nil))))) (pma_cons (pm_tup (pma_cons pm_int (pma_cons pm_int (pma_cons pm_int (pma_cons (pm_tup (pma_cons pm_int pma_nil)) pma_nil))))) (pma_cons pm_str (pma_cons pm_str (pma_cons pm_str (pma_cons pm_bl (pma_cons pm_bl (pma_cons pm_bl (pma_cons (pm_tup (pma_cons (pm_tup (pma_cons (pm_tup (pma_cons pm_int (pma_cons pm_int (pma_cons pm_int (pma_cons (pm_tup pma_nil) pma_nil))))) pma_nil)) (pma_cons (pm_tup (pma_cons (pm_tup (pma_cons pm_int (pma_cons pm_int (pma_cons pm_int (pma_cons (pm_tup pma_nil) pma_nil))))) (pma_cons (pm_tup (pma_cons pm_int (pma_cons pm_int (pma_cons pm_int (pma_cons (pm_tup pma_nil) pma_nil))))) pma_nil))) (pma_cons (pm_tup (pma_cons (pm_tup (pma_cons pm_int (pma_cons pm_int (pma_cons pm_int (pma_cons (pm_tup pma_nil) pma_nil))))) pma_nil)) pma_nil)))) (pma_cons (pm_tup (pma_cons pm_int (pma_cons pm_int (pma_cons pm_int (pma_cons (pm_tup pma_nil) pma_nil))))) pma_nil)))))))))))))))))))))))))) nd__law_plain) (
  (pmb_one (pms_ret (pm_cm (c_eq r) (pm_var 0) (pm_var 2)))))))))))))))))))))))) : PMB (cxOf (L2.CX P w) P w K mg base N__law_plain "_law_plain" (defScope (top 29)) (He.ga K "_law_plain") (.ref (He.codeOf K ("_law_plain", none))) A outer s H E) (TbOf tf tl K) (WF E) (defBody (top 29)) B__law_plain)
theorem ok__law_plain (C : W0 w K mg base) : OkD P w K mg base (TbOf tf tl K) 14 "_law_plain" [] f__law_plain := C.okD 22 24 (d := dOf 29 "_law_plain") rfl rfl rfl rfl rfl (fun fd F => fo__law_plain C F) fun _ _ _ _ _ _ us hl => match us, hl with | [], _ => rfl
end
/-! ### law -/
abbrev N_law : List Str := ["script", "dice", "rows", "one", "other", "mine", "theirs", "sorts", "best", "kind", "after", "least", "ways", "here", "turn", "great", "small", "fixes", "options", "spots", "groups", "k", "key", "row", "way", "version"]
theorem nd_law : N_law.Nodup := by decide +kernel
def S_law_0_b_0 : Sm := sSet 2 (mLc [21] (mRng (mCons (mOp (fAdd) (mC (.int 1)) (mCall f__law_roll (mCons (mVar 1) (mCons (mC (.int 8)) (mNil))))) (mNil))) (gNm 21) (mYes) (mCall f__law_version (mCons (mVar 1) (mNil))))
def S_law_0_b_1 : Sm := sAsg (gTp 2 (gsCons (gNm 3) (gsCons (gNm 4) (gsNil)))) (mTup (mCons (mOp fIx (mVar 2) (mC (.int 0))) (mCons (mOp fIx (mVar 2) (mUn gNeg (mC (.int 1)))) (mNil))))
def S_law_0_b_2_a_0 : Sm := sRet (mC (.bl false))
def S_law_0_b_2 : Sm := sIf (mOr (mTst (mOp (pure2 gNe) (mCall f_read_version (mCons (mCall f__law_text (mCons (mVar 3) (mNil))) (mNil))) (mVar 3))) (mOr (mTst (mOp (pure2 gNe) (mCall f_told_version (mCons (mVar 3) (mNil))) (mCall f__law_text (mCons (mVar 3) (mNil))))) (mTst (mOp (pure2 gNe) (mCall f_read_version (mCons (mOp (fAdd) (mCall f__law_text (mCons (mVar 3) (mNil))) (mC (.str "+b.7"))) (mNil))) (mVar 3))))) (S_law_0_b_2_a_0) (sNext)
def S_law_0_b_3 : Sm := sAsg (gTp 2 (gsCons (gNm 5) (gsCons (gNm 6) (gsNil)))) (mTup (mCons (mCall f__law_key (mCons (mVar 3) (mNil))) (mCons (mCall f__law_key (mCons (mVar 4) (mNil))) (mNil))))
def S_law_0_b_4_a_0 : Sm := sRet (mC (.bl false))
def S_law_0_b_4 : Sm := sIf (mOr (mTst (mOp (pure2 gNe) (mCall f_order (mCons (mVar 3) (mCons (mVar 4) (mNil)))) (mOp (pure2 gSubA) (mOp (pure2 gGt) (mVar 5) (mVar 6)) (mOp (pure2 gLt) (mVar 5) (mVar 6))))) (mOr (mTst (mOp (pure2 gNe) (mOp (pure2 gLt) (mCall f_key_of (mCons (mVar 3) (mNil))) (mCall f_key_of (mCons (mVar 4) (mNil)))) (mOp (pure2 gLt) (mVar 5) (mVar 6)))) (mTst (mOp (pure2 gNe) (mCall f_is_better (mCons (mVar 3) (mCons (mVar 4) (mNil)))) (mOp (pure2 gGt) (mTup (mCons (mOp (pure2 gEq) (mOp fIx (mVar 3) (mC (.int 3))) (mTup (mNil))) (mCons (mVar 5) (mNil)))) (mTup (mCons (mOp (pure2 gEq) (mOp fIx (mVar 4) (mC (.int 3))) (mTup (mNil))) (mCons (mVar 6) (mNil))))))))) (S_law_0_b_4_a_0) (sNext)
def S_law_0_b_5 : Sm := sSet 7 (mLc [22, 21, 23] (mSrc (mCall fSorted (mCons (mLc [21, 23] (mEnum (mVar 2)) (gTp 2 (gsCons (gNm 21) (gsCons (gNm 23) (gsNil)))) (mYes) (mTup (mCons (mCall f__law_key (mCons (mVar 23) (mNil))) (mCons (mVar 21) (mCons (mVar 23) (mNil)))))) mNil))) (gTp 3 (gsCons (gNm 22) (gsCons (gNm 21) (gsCons (gNm 23) (gsNil))))) (mYes) (mVar 23))
def S_law_0_b_6 : Sm := sSet 8 (mCall fMax (mCons (mLc [23] (mSrc (mVar 2)) (gNm 23) (mYes) (mTup (mCons (mOp (pure2 gEq) (mOp fIx (mVar 23) (mC (.int 3))) (mTup (mNil))) (mCons (mCall f__law_key (mCons (mVar 23) (mNil))) (mNil))))) mNil))
def S_law_0_b_7_a_0 : Sm := sRet (mC (.bl false))
def S_law_0_b_7 : Sm := sIf (mOr (mTst (mOp (pure2 gNe) (mCall fList (mCons (mCall f_in_order (mCons (mVar 2) (mNil))) mNil)) (mVar 7))) (mTst (mOp (pure2 gNe) (mTup (mCons (mOp (pure2 gEq) (mOp fIx (mCall f_newest (mCons (mVar 2) (mNil))) (mC (.int 3))) (mTup (mNil))) (mCons (mCall f__law_key (mCons (mCall f_newest (mCons (mVar 2) (mNil))) (mNil))) (mNil)))) (mVar 8)))) (S_law_0_b_7_a_0) (sNext)
def S_law_0_b_8_b_0 : Sm := sSet 10 (mCall f_stepped (mCons (mVar 3) (mCons (mVar 9) (mNil))))
def S_law_0_b_8_b_1_a_0 : Sm := sRet (mC (.bl false))
def S_law_0_b_8_b_1 : Sm := sIf (mOr (mTst (mOp (pure2 gLe) (mCall f_order (mCons (mVar 10) (mCons (mVar 3) (mNil)))) (mC (.int 0)))) (mOr (mAnd (mTst (mOp (pure2 gNe) (mVar 9) (mC (.str "early")))) (mTst (mOp (pure2 gNe) (mOp fIx (mVar 10) (mC (.int 3))) (mTup (mNil))))) (mOr (mAnd (mTst (mOp (pure2 gEq) (mVar 9) (mC (.str "great")))) (mTst (mOp (pure2 gNe) (mSl (mVar 10) (mPart (mC (.int 1))) (mPart (mC (.int 3)))) (mTup (mCons (mC (.int 0)) (mCons (mC (.int 0)) (mNil))))))) (mOr (mAnd (mTst (mOp (pure2 gEq) (mVar 9) (mC (.str "small")))) (mTst (mOp (pure2 gNe) (mOp fIx (mVar 10) (mC (.int 2))) (mC (.int 0))))) (mAnd (mTst (mOp (pure2 gEq) (mVar 9) (mC (.str "early")))) (mTst (mOp (pure2 gEq) (mOp fIx (mVar 10) (mC (.int 3))) (mTup (mNil))))))))) (S_law_0_b_8_b_1_a_0) (sNext)
def S_law_0_b_8_b_2_a_0 : Sm := sRet (mC (.bl false))
def S_law_0_b_8_b_2 : Sm := sIf (mAnd (mTst (mOp (pure2 gEq) (mOp fIx (mVar 3) (mC (.int 3))) (mTup (mNil)))) (mTst (mOp (pure2 gNe) (mCall f_step_between (mCons (mVar 3) (mCons (mVar 10) (mNil)))) (mIf (mTst (mOp (pure2 gNe) (mVar 9) (mC (.str "early")))) (mVar 9) (mC (.str "fix")))))) (S_law_0_b_8_b_2_a_0) (sNext)
def S_law_0_b_8_b_3 : Sm := sSet 11 (mCall f_least_step (mCons (mVar 2) (mCons (mVar 3) (mCons (mVar 9) (mNil)))))
def S_law_0_b_8_b_4 : Sm := sPar2 12 13 (mCons (mLst (mNil)) (mCons (mVar 3) (mNil)))
def S_law_0_b_8_b_5_b_0 : Sm := sSet 13 (mCall f_stepped (mCons (mVar 13) (mCons (mVar 9) (mNil))))
def S_law_0_b_8_b_5_b_1 : Sm := sSet 12 (mOp (fAdd) (mVar 12) (mLst (mCons (mVar 13) (mNil))))
def S_law_0_b_8_b_5 : Sm := sFor (mRng (mCons (mOp (fAdd) (mCall fLen (mCons (mVar 2) mNil)) (mC (.int 1))) (mNil))) (gNm 14) (
  sSeq (S_law_0_b_8_b_5_b_0) (
  S_law_0_b_8_b_5_b_1))
def S_law_0_b_8_b_6_a_0 : Sm := sRet (mC (.bl false))
def S_law_0_b_8_b_6 : Sm := sIf (mTst (mOp (pure2 gNe) (mVar 11) (mOp fIx (mLc [24] (mSrc (mVar 12)) (gNm 24) (mTst (mOp (pure2 gNotIn) (mVar 24) (mVar 2))) (mVar 24)) (mC (.int 0))))) (S_law_0_b_8_b_6_a_0) (sNext)
def S_law_0_b_8 : Sm := sFor (mSrc (mC c_KINDS_OF_STEPS)) (gNm 9) (
  sSeq (S_law_0_b_8_b_0) (
  sSeq (S_law_0_b_8_b_1) (
  sSeq (S_law_0_b_8_b_2) (
  sSeq (S_law_0_b_8_b_3) (
  sSeq (S_law_0_b_8_b_4) (
  sSeq (S_law_0_b_8_b_5) (
  S_law_0_b_8_b_6)))))))
def S_law_0_b_9 : Sm := sSet 15 (mLc [21] (mRng (mCons (mC (.int 5)) (mNil))) (gNm 21) (mYes) (mTup (mCons (mVar 21) (mCons (mC (.int 0)) (mCons (mC (.int 0)) (mCons (mTup (mNil)) (mNil)))))))
def S_law_0_b_10 : Sm := sSet 16 (mLc [21] (mRng (mCons (mC (.int 5)) (mNil))) (gNm 21) (mYes) (mTup (mCons (mOp fIx (mVar 3) (mC (.int 0))) (mCons (mVar 21) (mCons (mC (.int 0)) (mCons (mTup (mNil)) (mNil)))))))
def S_law_0_b_11 : Sm := sSet 17 (mLc [21] (mRng (mCons (mC (.int 6)) (mNil))) (gNm 21) (mYes) (mTup (mCons (mOp fIx (mVar 3) (mC (.int 0))) (mCons (mOp fIx (mVar 3) (mC (.int 1))) (mCons (mVar 21) (mCons (mTup (mNil)) (mNil)))))))
def S_law_0_b_12_b_0_a_0 : Sm := sRet (mC (.bl false))
def S_law_0_b_12_b_0 : Sm := sIf (mTst (mOp (pure2 gNe) (mCall f_stepped (mCons (mVar 3) (mCons (mVar 9) (mNil)))) (mOp fIx (mLc [23] (mSrc (mVar 18)) (gNm 23) (mTst (mOp (pure2 gGt) (mCall f__law_key (mCons (mVar 23) (mNil))) (mVar 5))) (mVar 23)) (mC (.int 0))))) (S_law_0_b_12_b_0_a_0) (sNext)
def S_law_0_b_12 : Sm := sFor (mSrc (mLst (mCons (mTup (mCons (mC (.str "great")) (mCons (mVar 15) (mNil)))) (mCons (mTup (mCons (mC (.str "small")) (mCons (mVar 16) (mNil)))) (mCons (mTup (mCons (mC (.str "fix")) (mCons (mVar 17) (mNil)))) (mNil)))))) (gTp 2 (gsCons (gNm 9) (gsCons (gNm 18) (gsNil)))) (
  S_law_0_b_12_b_0)
def S_law_0_b_13 : Sm := sSet 19 (mLc [21] (mRng (mCons (mC (.int 3)) (mNil))) (gNm 21) (mTst (mOp (pure2 gNe) (mOp fIx (mVar 3) (mVar 21)) (mOp fIx (mVar 4) (mVar 21)))) (mVar 21))
def S_law_0_b_14_a_0 : Sm := sRet (mC (.bl false))
def S_law_0_b_14 : Sm := sIf (mOr (mTst (mOp (pure2 gNe) (mCall f_step_between (mCons (mVar 3) (mCons (mVar 4) (mNil)))) (mIf (mTst (mOp (pure2 gNe) (mVar 19) (mLst (mNil)))) (mOp fIx (mC c_KINDS_OF_STEPS) (mOp fIx (mVar 19) (mC (.int 0)))) (mIf (mTst (mOp (pure2 gNe) (mOp fIx (mVar 3) (mC (.int 3))) (mOp fIx (mVar 4) (mC (.int 3))))) (mC (.str "early")) (mC (.str "")))))) (mTst (mOp (pure2 gNe) (mCall f_is_kept (mCons (mVar 3) (mCons (mVar 4) (mNil)))) (mCall f__law_kept (mCons (mVar 3) (mCons (mVar 4) (mNil))))))) (S_law_0_b_14_a_0) (sNext)
def S_law_0_b_15 : Sm := sSet 20 (mCall (fZ f_groups_kept) (mCons (mVar 2) (mNil)))
def S_law_0_b_16_a_0 : Sm := sRet (mC (.bl false))
def S_law_0_b_16 : Sm := sIf (mOr (mTst (mOp (pure2 gNe) (mCall fSumL (mCons (mLc [23] (mSrc (mVar 20)) (gNm 23) (mYes) (mCall fList (mCons (mVar 23) mNil))) (mCons (mLst (mNil)) mNil))) (mVar 7))) (mOr (mTst (mOp (pure2 gNe) (mLc [23] (mSrc (mVar 20)) (gNm 23) (mTst (mOp (pure2 gNe) (mLc [25] (mSrc (mVar 23)) (gNm 25) (mNot (mTst (mCall f__law_kept (mCons (mOp fIx (mVar 23) (mC (.int 0))) (mCons (mVar 25) (mNil)))))) (mVar 25)) (mLst (mNil)))) (mVar 23)) (mLst (mNil)))) (mTst (mOp (pure2 gNe) (mLc [21] (mRng (mCons (mOp (pure2 gSubA) (mCall fLen (mCons (mVar 20) mNil)) (mC (.int 1))) (mNil))) (gNm 21) (mTst (mCall f__law_kept (mCons (mOp fIx (mOp fIx (mVar 20) (mVar 21)) (mC (.int 0))) (mCons (mOp fIx (mOp fIx (mVar 20) (mOp (fAdd) (mVar 21) (mC (.int 1)))) (mC (.int 0))) (mNil))))) (mVar 21)) (mLst (mNil)))))) (S_law_0_b_16_a_0) (sNext)
def S_law_0 : Sm := sFor (mSrc (mCall f__law_rounds (mCons (mVar 0) (mCons (mC (.int 1)) (mNil))))) (gNm 1) (
  sSeq (S_law_0_b_0) (
  sSeq (S_law_0_b_1) (
  sSeq (S_law_0_b_2) (
  sSeq (S_law_0_b_3) (
  sSeq (S_law_0_b_4) (
  sSeq (S_law_0_b_5) (
  sSeq (S_law_0_b_6) (
  sSeq (S_law_0_b_7) (
  sSeq (S_law_0_b_8) (
  sSeq (S_law_0_b_9) (
  sSeq (S_law_0_b_10) (
  sSeq (S_law_0_b_11) (
  sSeq (S_law_0_b_12) (
  sSeq (S_law_0_b_13) (
  sSeq (S_law_0_b_14) (
  sSeq (S_law_0_b_15) (
  S_law_0_b_16)))))))))))))))))
def S_law_1 : Sm := sRet (mCall (fZ f__law_plain) mNil)
def B_law : Sm := sSeq (S_law_0) (
  S_law_1)
def f_law : PF := bodyF 1 26 B_law
theorem sc_law : FnScope N_law ["script"] (defScope (top 30)) := ⟨rfl, rfl, rfl, nd_law, rfl, by decide +kernel, by decide +kernel⟩
section
variable {P : Program} {w : World} {K : PySem.W.Frag} {mg : Str → Option Value} {base : Heap}
theorem fo_law (C : W0 w K mg base) {fd : FuncData} (F : FunD K "law" "law" (defArgs (top 30)) (defBody (top 30)) (defScope (top 30)) [] [] (He.ga K "law") fd) : FnOk P w K mg base (L2.CX P w) 15 (He.ga K "law") fd ["script"] (spP K (TbOf tf tl K) 1 f_law) := by
  refine fn_pmT (p := ("law", none)) F sc_law fun A outer s H E r => ?_
  have tk : Takes (cxOf (L2.CX P w) P w K mg base N_law "law" (defScope (top 30)) (He.ga K "law") (.ref (He.codeOf K ("law", none))) A outer s H E) (WF E) := takes_of rfl rfl rfl rfl
  have tL := takes_toL tk
  have fm : Frm (cxOf (L2.CX P w) P w K mg base N_law "law" (defScope (top 30)) (He.ga K "law") (.ref (He.codeOf K ("law", none))) A outer s H E) s.heap.objs.size := ⟨⟨_, _, rfl, rfl⟩, rfl⟩
  have hp : PassesOwn (model P w) _ _ _ := passes_of (X := cxOf (L2.CX P w) P w K mg base N_law "law" (defScope (top 30)) (He.ga K "law") (.ref (He.codeOf K ("law", none))) A outer s H E) rfl
  exact ((pmb_cons (pms_for hp rfl (pmi_val (pm_callD (ok__law_rounds C) r (by decide) (takesL_pass tL) rfl (pma_cons (pm_var 0) (pma_cons pm_int pma_nil)) (len_cons (len_cons len_nil)))) (pmg_name 1 nd_law) (pmb_cons (pms_set 2 (pm_lc (own := [("k", 21)]) rfl nd_law (pmi_rng1 rfl (C.free 35 rfl) (pma_cons (pm_add pm_int (pm_callD (ok__law_roll C) r (by decide) (takesL_pass tL) rfl (pma_cons (pm_var 1) (pma_cons pm_int pma_nil)) (len_cons (len_cons len_nil)))) pma_nil) len1) (blkOk_by (by with_unfolding_all rfl)) tL fm (by decide) (fun _ _ _ _ _ _ => (pmg_name 21 nd_law)) (fun _ _ _ _ _ _ _ t1 => pmts_nil) (fun _ _ _ _ _ _ _ t1 => (pm_callD (ok__law_version C) r (by decide) (takesL_pass t1) rfl (pma_cons (pm_var 1) pma_nil) (len_cons len_nil)))) nd_law) (
  (pmb_cons (pms_asg (pmg_tup rfl (pmgs_cons (pmg_name 3 nd_law) (pmgs_cons (pmg_name 4 nd_law) pmgs_nil))) (pm_tup (pma_cons (pm_ix (pm_var 2) pm_int) (pma_cons (pm_ix (pm_var 2) (pm_neg pm_int)) pma_nil)))) (
  (pmb_cons (pms_if (pmt_w (pmw_or (pmt_cm (c_ne r) (pm_callD (ok_read_version C) r (by decide) (takesL_pass tL) rfl (pma_cons (pm_callD (ok__law_text C) r (by decide) (takesL_pass tL) rfl (pma_cons (pm_var 3) pma_nil) (len_cons len_nil)) pma_nil) (len_cons len_nil)) (pm_var 3)) (pmw_or (pmt_cm (c_ne r) (pm_callD (ok_told_version C) r (by decide) (takesL_pass tL) rfl (pma_cons (pm_var 3) pma_nil) (len_cons len_nil)) (pm_callD (ok__law_text C) r (by decide) (takesL_pass tL) rfl (pma_cons (pm_var 3) pma_nil) (len_cons len_nil))) (pmw_or1 (pmt_cm (c_ne r) (pm_callD (ok_read_version C) r (by decide) (takesL_pass tL) rfl (pma_cons (pm_add (pm_callD (ok__law_text C) r (by decide) (takesL_pass tL) rfl (pma_cons (pm_var 3) pma_nil) (len_cons len_nil)) pm_str) pma_nil) (len_cons len_nil)) (pm_var 3)))))) (pmb_one (pms_ret pm_bl)) pmb_nil) (
  (pmb_cons (pms_asg (pmg_tup rfl (pmgs_cons (pmg_name 5 nd_law) (pmgs_cons (pmg_name 6 nd_law) pmgs_nil))) (pm_tup (pma_cons (pm_callD (ok__law_key C) r (by decide) (takesL_pass tL) rfl (pma_cons (pm_var 3) pma_nil) (len_cons len_nil)) (pma_cons (pm_callD (ok__law_key C) r (by decide) (takesL_pass tL) rfl (pma_cons (pm_var 4) pma_nil) (len_cons len_nil)) pma_nil)))) (
  (pmb_cons (pms_if (pmt_w (pmw_or (pmt_cm (c_ne r) (pm_callD (ok_order C) r (by decide) (takesL_pass tL) rfl (pma_cons (pm_var 3) (pma_cons (pm_var 4) pma_nil)) (len_cons (len_cons len_nil))) (pm_subA (pm_cm (c_gt r) (pm_var 5) (pm_var 6)) (pm_cm (c_lt r) (pm_var 5) (pm_var 6)))) (pmw_or (pmt_cm (c_ne r) (pm_cm (c_lt r) (pm_callD (ok_key_of C) r (by decide) (takesL_pass tL) rfl (pma_cons (pm_var 3) pma_nil) (len_cons len_nil)) (pm_callD (ok_key_of C) r (by decide) (takesL_pass tL) rfl (pma_cons (pm_var 4) pma_nil) (len_cons len_nil))) (pm_cm (c_lt r) (pm_var 5) (pm_var 6))) (pmw_or1 (pmt_cm (c_ne r) (pm_callD (ok_is_better C) r (by decide) (takesL_pass tL) rfl (pma_cons (pm_var 3) (pma_cons (pm_var 4) pma_nil)) (len_cons (len_cons len_nil))) (pm_cm (c_gt r) (pm_tup (pma_cons (pm_cm (c_eq r) (pm_ix (pm_var 3) pm_int) (pm_tup pma_nil)) (pma_cons (pm_var 5) pma_nil))) (pm_tup (pma_cons (pm_cm (c_eq r) (pm_ix (pm_var 4) pm_int) (pm_tup pma_nil)) (pma_cons (pm_var 6) pma_nil))))))))) (pmb_one (pms_ret pm_bl)) pmb_nil) (
  (pmb_cons (pms_setLc 7 (own := [("key", 22), ("k", 21), ("row", 23)]) rfl nd_law rfl rfl rfl (pmi_val (pc_sorted r rfl (C.free 36 rfl) (pm_lc (own := [("k", 21), ("row", 23)]) rfl nd_law (pmi_enum rfl (C.free 29 rfl) (pm_var 2)) (blkOk_by (by with_unfolding_all rfl)) tL fm (by decide) (fun _ _ _ _ _ _ => (pmg_tup rfl (pmgs_cons (pmg_name 21 nd_law) (pmgs_cons (pmg_name 23 nd_law) pmgs_nil)))) (fun _ _ _ _ _ _ _ t1 => pmts_nil) (fun _ _ _ _ _ _ _ t1 => (pm_tup (pma_cons (pm_callD (ok__law_key C) r (by decide) (takesL_pass t1) rfl (pma_cons (pm_var 23) pma_nil) (len_cons len_nil)) (pma_cons (pm_var 21) (pma_cons (pm_var 23) pma_nil)))))))) (blkOk_by (by with_unfolding_all rfl)) tL fm (by decide) (fun _ _ _ _ _ _ => (pmg_tup rfl (pmgs_cons (pmg_name 22 nd_law) (pmgs_cons (pmg_name 21 nd_law) (pmgs_cons (pmg_name 23 nd_law) pmgs_nil))))) (fun _ _ _ _ _ _ _ t1 => pmts_nil) (fun _ _ _ _ _ _ _ t1 => (pm_var 23))) (
  (pmb_cons (pms_set 8 (pc_max r rfl (C.free 34 rfl) (pm_lc (own := [("row", 23)]) rfl nd_law (pmi_val (pm_var 2)) (blkOk_by (by with_unfolding_all rfl)) tL fm (by decide) (fun _ _ _ _ _ _ => (pmg_name 23 nd_law)) (fun _ _ _ _ _ _ _ t1 => pmts_nil) (fun _ _ _ _ _ _ _ t1 => (pm_tup (pma_cons (pm_cm (c_eq r) (pm_ix (pm_var 23) pm_int) (pm_tup pma_nil)) (pma_cons (pm_callD (ok__law_key C) r (by decide) (takesL_pass t1) rfl (pma_cons (pm_var 23) pma_nil) (len_cons len_nil)) pma_nil)))))) nd_law) (
  (pmb_cons (pms_if (pmt_w (pmw_or (pmt_cm (c_ne r) (pc_list rfl (C.free 33 rfl) (pm_callD (ok_in_order C) r (by decide) (takesL_pass tL) rfl (pma_cons (pm_var 2) pma_nil) (len_cons len_nil))) (pm_var 7)) (pmw_or1 (pmt_cm (c_ne r) (pm_tup (pma_cons (pm_cm (c_eq r) (pm_ix (pm_callD (ok_newest C) r (by decide) (takesL_pass tL) rfl (pma_cons (pm_var 2) pma_nil) (len_cons len_nil)) pm_int) (pm_tup pma_nil)) (pma_cons (pm_callD (ok__law_key C) r (by decide) (takesL_pass tL) rfl (pma_cons (pm_callD (ok_newest C) r (by decide) (takesL_pass tL) rfl (pma_cons (pm_var 2) pma_nil) (len_cons len_nil)) pma_nil) (len_cons len_nil)) pma_nil))) (pm_var 8))))) (pmb_one (pms_ret pm_bl)) pmb_nil) (
  (pmb_cons (pms_for hp rfl (pmi_val (con_KINDS_OF_STEPS C rfl)) (pmg_name 9 nd_law) (pmb_cons (pms_set 10 (pm_callD (ok_stepped C) r (by decide) (takesL_pass tL) rfl (pma_cons (pm_var 3) (pma_cons (pm_var 9) pma_nil)) (len_cons (len_cons len_nil))) nd_law) (
  (pmb_cons (pms_if (pmt_w (pmw_or (pmt_cm (c_le r) (pm_callD (ok_order C) r (by decide) (takesL_pass tL) rfl (pma_cons (pm_var 10) (pma_cons (pm_var 3) pma_nil)) (len_cons (len_cons len_nil))) pm_int) (pmw_or (pmt_w (pmw_and (pmt_cm (c_ne r) (pm_var 9) pm_str) (pmw_and1 (pmt_cm (c_ne r) (pm_ix (pm_var 10) pm_int) (pm_tup pma_nil))))) (pmw_or (pmt_w (pmw_and (pmt_cm (c_eq r) (pm_var 9) pm_str) (pmw_and1 (pmt_cm (c_ne r) (pm_sl (pm_var 10) (pmo_some pm_int) (pmo_some pm_int)) (pm_tup (pma_cons pm_int (pma_cons pm_int pma_nil))))))) (pmw_or (pmt_w (pmw_and (pmt_cm (c_eq r) (pm_var 9) pm_str) (pmw_and1 (pmt_cm (c_ne r) (pm_ix (pm_var 10) pm_int) pm_int)))) (pmw_or1 (pmt_w (pmw_and (pmt_cm (c_eq r) (pm_var 9) pm_str) (pmw_and1 (pmt_cm (c_eq r) (pm_ix (pm_var 10) pm_int) (pm_tup pma_nil))))))))))) (pmb_one (pms_ret pm_bl)) pmb_nil) (
  (pmb_cons (pms_if (pmt_w (pmw_and (pmt_cm (c_eq r) (pm_ix (pm_var 3) pm_int) (pm_tup pma_nil)) (pmw_and1 (pmt_cm (c_ne r) (pm_callD (ok_step_between C) r (by decide) (takesL_pass tL) rfl (pma_cons (pm_var 3) (pma_cons (pm_var 10) pma_nil)) (len_cons (len_cons len_nil))) (pm_ifexp (pmt_cm (c_ne r) (pm_var 9) pm_str) (pm_var 9) pm_str))))) (pmb_one (pms_ret pm_bl)) pmb_nil) (
  (pmb_cons (pms_set 11 (pm_callD (ok_least_step C) r (by decide) (takesL_pass tL) rfl (pma_cons (pm_var 2) (pma_cons (pm_var 3) (pma_cons (pm_var 9) pma_nil))) (len_cons (len_cons (len_cons len_nil)))) nd_law) (
  (pmb_cons (pms_par2 12 13 rfl nd_law (pma_cons (pm_lst pma_nil) (pma_cons (pm_var 3) pma_nil))) (
  (pmb_cons (pms_for hp rfl (pmi_rng1 rfl (C.free 35 rfl) (pma_cons (pm_add (pc_len rfl (C.free 32 rfl) (pm_var 2)) pm_int) pma_nil) len1) (pmg_name 14 nd_law) (pmb_cons (pms_set 13 (pm_callD (ok_stepped C) r (by decide) (takesL_pass tL) rfl (pma_cons (pm_var 13) (pma_cons (pm_var 9) pma_nil)) (len_cons (len_cons len_nil))) nd_law) (
  (pmb_one (pms_set 12 (pm_add (pm_var 12) (pm_lst (pma_cons (pm_var 13) pma_nil))) nd_law))))) (
  (pmb_one (pms_if (pmt_cm (c_ne r) (pm_var 11) (pm_ix (pm_lc (own := [("way", 24)]) rfl nd_law (pmi_val (pm_var 12)) (blkOk_by (by with_unfolding_all rfl)) tL fm (by decide) (fun _ _ _ _ _ _ => (pmg_name 24 nd_law)) (fun _ _ _ _ _ _ _ t1 => (pmts_one (pmt_cm (c_notin r) (pm_var 24) (pm_var 2)))) (fun _ _ _ _ _ _ _ t1 => (pm_var 24))) pm_int)) (pmb_one (pms_ret pm_bl)) pmb_nil))))))))))))))) (
  (pmb_cons (pms_setLc 15 (own := [("k", 21)]) rfl nd_law rfl rfl rfl (pmi_rng1 rfl (C.free 35 rfl) (pma_cons pm_int pma_nil) len1) (blkOk_by (by with_unfolding_all rfl)) tL fm (by decide) (fun _ _ _ _ _ _ => (pmg_name 21 nd_law)) (fun _ _ _ _ _ _ _ t1 => pmts_nil) (fun _ _ _ _ _ _ _ t1 => (pm_tup (pma_cons (pm_var 21) (pma_cons pm_int (pma_cons pm_int (pma_cons (pm_tup pma_nil) pma_nil))))))) (
  (pmb_cons (pms_setLc 16 (own := [("k", 21)]) rfl nd_law rfl rfl rfl (pmi_rng1 rfl (C.free 35 rfl) (pma_cons pm_int pma_nil) len1) (blkOk_by (by with_unfolding_all rfl)) tL fm (by decide) (fun _ _ _ _ _ _ => (pmg_name 21 nd_law)) (fun _ _ _ _ _ _ _ t1 => pmts_nil) (fun _ _ _ _ _ _ _ t1 => (pm_tup (pma_cons (pm_ix (pm_var 3) pm_int) (pma_cons (pm_var 21) (pma_cons pm_int (pma_cons (pm_tup pma_nil) pma_nil))))))) (
  (pmb_cons (pms_setLc 17 (own := [("k", 21)]) rfl nd_law rfl rfl rfl (pmi_rng1 rfl (C.free 35 rfl) (pma_cons pm_int pma_nil) len1) (blkOk_by (by with_unfolding_all rfl)) tL fm (by decide) (fun _ _ _ _ _ _ => (pmg_name 21 nd_law)) (fun _ _ _ _ _ _ _ t1 => pmts_nil) (fun _ _ _ _ _ _ _ t1 => (pm_tup (pma_cons (pm_ix (pm_var 3) pm_int) (pma_cons (pm_ix (pm_var 3) pm_int) (pma_cons (pm_var 21) (pma_cons (pm_tup pma_nil) pma_nil))))))) (
  (pmb_cons (pms_for hp rfl (pmi_val (pm_lst (pma_cons (pm_tup (pma_cons pm_str (pma_cons (pm_var 15) pma_nil))) (pma_cons (pm_tup (pma_cons pm_str (pma_cons (pm_var 16) pma_nil))) (pma_cons (pm_tup (pma_cons pm_str (pma_cons (pm_var 17) pma_nil))) pma_nil))))) (pmg_tup rfl (pmgs_cons (pmg_name 9 nd_law) (pmgs_cons (pmg_name 18 nd_law) pmgs_nil))) (pmb_one (pms_if (pmt_cm (c_ne r) (pm_callD (ok_stepped C) r (by decide) (takesL_pass tL) rfl (pma_cons (pm_var 3) (pma_cons (pm_var 9) pma_nil)) (len_cons (len_cons len_nil))) (pm_ix (pm_lc (own := [("row", 23)]) rfl nd_law (pmi_val (pm_var 18)) (blkOk_by (by with_unfolding_all rfl)) tL fm (by decide) (fun _ _ _ _ _ _ => (pmg_name 23 nd_law)) (fun _ _ _ _ _ _ _ t1 => (pmts_one (pmt_cm (c_gt r) (pm_callD (ok__law_key C) r (by decide) (takesL_pass t1) rfl (pma_cons (pm_var 23) pma_nil) (len_cons len_nil)) (pm_var 5)))) (fun _ _ _ _ _ _ _ t1 => (pm_var 23))) pm_int)) (pmb_one (pms_ret pm_bl)) pmb_nil))) (
  (pmb_cons (pms_setLc 19 (own := [("k", 21)]) rfl nd_law rfl rfl rfl (pmi_rng1 rfl (C.free 35 rfl) (pma_cons pm_int pma_nil) len1) (blkOk_by (by with_unfolding_all rfl)) tL fm (by decide) (fun _ _ _ _ _ _ => (pmg_name 21 nd_law)) (fun _ _ _ _ _ _ _ t1 => (pmts_one (pmt_cm (c_ne r) (pm_ix (pm_var 3) (pm_var 21)) (pm_ix (pm_var 4) (pm_var 21))))) (fun _ _ _ _ _ _ _ t1 => (pm_var 21))) (
  (pmb_cons (pms_if (pmt_w (pmw_or (pmt_cm (c_ne r) (pm_callD (ok_step_between C) r (by decide) (takesL_pass tL) rfl (pma_cons (pm_var 3) (pma_cons (pm_var 4) pma_nil)) (len_cons (len_cons len_nil))) (pm_ifexp (pmt_cm (c_ne r) (pm_var 19) (pm_lst pma_nil)) (pm_ix (con_KINDS_OF_STEPS C rfl) (pm_ix (pm_var 19) pm_int)) (pm_ifexp (pmt_cm (c_ne r) (pm_ix (pm_var 3) pm_int) (pm_ix (pm_var 4) pm_int)) pm_str pm_str))) (pmw_or1 (pmt_cm (c_ne r) (pm_callD (ok_is_kept C) r (by decide) (takesL_pass tL) rfl (pma_cons (pm_var 3) (pma_cons (pm_var 4) pma_nil)) (len_cons (len_cons len_nil))) (pm_callD (ok__law_kept C) r (by decide) (takesL_pass tL) rfl (pma_cons (pm_var 3) (pma_cons (pm_var 4) pma_nil)) (len_cons (len_cons len_nil))))))) (pmb_one (pms_ret pm_bl)) pmb_nil) (
  (pmb_cons (pms_set 20 (pm_callD (OkD.Z (ok_groups_kept C)) r (by decide) (takesL_pass tL) rfl (pma_cons (pm_var 2) pma_nil) (len_cons len_nil)) nd_law) (
  (pmb_one (pms_if (pmt_w (pmw_or (pmt_cm (c_ne r) (pc_sumL rfl rfl (C.free 38 rfl) (pm_lc (own := [("row", 23)]) rfl nd_law (pmi_val (pm_var 20)) (blkOk_by (by with_unfolding_all rfl)) tL fm (by decide) (fun _ _ _ _ _ _ => (pmg_name 23 nd_law)) (fun _ _ _ _ _ _ _ t1 => pmts_nil) (fun _ _ _ _ _ _ _ t1 => (pc_list rfl (C.free 33 rfl) (pm_var 23)))) (pm_lst pma_nil)) (pm_var 7)) (pmw_or (pmt_cm (c_ne r) (pm_lc (own := [("row", 23)]) rfl nd_law (pmi_val (pm_var 20)) (blkOk_by (by with_unfolding_all rfl)) tL fm (by decide) (fun _ _ _ _ _ _ => (pmg_name 23 nd_law)) (fun _ _ _ _ _ _ _ t1 => (pmts_one (pmt_cm (c_ne r) (pm_lc (own := [("version", 25)]) rfl nd_law (pmi_val (pm_var 23)) (blkOk_by (by with_unfolding_all rfl)) t1 ⟨⟨_, _, rfl, rfl⟩, rfl⟩ (by decide) (fun _ _ _ _ _ _ => (pmg_name 25 nd_law)) (fun _ _ _ _ _ _ _ t2 => (pmts_one (pmt_not (pmt_val (pm_callD (ok__law_kept C) r (by decide) (takesL_pass t2) rfl (pma_cons (pm_ix (pm_var 23) pm_int) (pma_cons (pm_var 25) pma_nil)) (len_cons (len_cons len_nil))))))) (fun _ _ _ _ _ _ _ t2 => (pm_var 25))) (pm_lst pma_nil)))) (fun _ _ _ _ _ _ _ t1 => (pm_var 23))) (pm_lst pma_nil)) (pmw_or1 (pmt_cm (c_ne r) (pm_lc (own := [("k", 21)]) rfl nd_law (pmi_rng1 rfl (C.free 35 rfl) (pma_cons (pm_subA (pc_len rfl (C.free 32 rfl) (pm_var 20)) pm_int) pma_nil) len1) (blkOk_by (by with_unfolding_all rfl)) tL fm (by decide) (fun _ _ _ _ _ _ => (pmg_name 21 nd_law)) (fun _ _ _ _ _ _ _ t1 => (pmts_one (pmt_val (pm_callD (ok__law_kept C) r (by decide) (takesL_pass t1) rfl (pma_cons (pm_ix (pm_ix (pm_var 20) (pm_var 21)) pm_int) (pma_cons (pm_ix (pm_ix (pm_var 20) (pm_add (pm_var 21) pm_int)) pm_int) pma_nil)) (len_cons (len_cons len_nil)))))) (fun _ _ _ _ _ _ _ t1 => (pm_var 21))) (pm_lst pma_nil)))))) (pmb_one (pms_ret pm_bl)) pmb_nil))))))))))))))))))))))))))))))))))) (
  (pmb_one (pms_ret (pm_callD0 (OkD.Z (ok__law_plain C)) r (by decide) (takesL_pass tL) rfl))))) : PMB (cxOf (L2.CX P w) P w K mg base N_law "law" (defScope (top 30)) (He.ga K "law") (.ref (He.codeOf K ("law", none))) A outer s H E) (TbOf tf tl K) (WF E) (defBody (top 30)) B_law)
theorem ok_law (C : W0 w K mg base) : OkD P w K mg base (TbOf tf tl K) 15 "law" ["script"] f_law := C.okD 23 25 (d := dOf 30 "law") rfl rfl rfl rfl rfl (fun fd F => fo_law C F) fun _ _ _ _ _ _ us hl => match us, hl with | [_], _ => rfl
end
/-! ### the head -/
def names : List Str := ["ResolveFault", "VersionError", "KINDS_OF_STEPS", "SIGNS_OF_PARTS", "read_version", "read_number", "read_part", "told_version", "key_of", "order", "in_order", "newest", "is_better", "stepped", "step_between", "is_kept", "groups_kept", "least_step", "_law_dice", "_law_roll", "_law_rounds", "_law_told", "_law_key", "_law_version", "_law_text", "_law_kept", "_law_plain"]
abbrev R : PySem.W.OpenRow := PySem.W.OpenLaw.row PySem.Challenge.rw_resolvestack_k01_numbers_of_releases
abbrev hk : PySem.W.Hook := He.hookX 4 fa fn [] (tf ++ tl) (exB cs excs tf tl)
def ob (s : PySem.W.SharedT) : He.AlX := He.obsX 4 fa fn [] (tf ++ tl) (exB cs excs tf tl) (HandSHeadRun.getT s)
theorem ob_eq (s : PySem.W.SharedT) : ob s = hk.obs s.abs := He.obsX_eq (HandSHeadRun.getT_eq s)
theorem run (w : World) : HandSHeadRun.RunEq R (PySem.W.view R.prog [30]) hk ob 20000 names w := by
  intro os
  kernel_rfl
end K01
end
section
set_option Elab.async false
set_option linter.all false
set_option maxRecDepth 100000
set_option maxHeartbeats 4000000
namespace K01
open PySem PySem.Spec PM PL
structure Dice (h : Hm) (i : Nat) : Prop where
  ex : ∃ a b c : Int, h[i]? = some (.lst [.int a, .int b, .int c])
theorem set_at {h : Hm} {i : Nat} {o x : MO} (e : h[i]? = some o) : (h.set i x)[i]? = some x := by
  rw [List.getElem?_set_self (List.getElem?_eq_some_iff.mp e).1]
theorem put_ref {h : Hm} {i : Nat} {xs : List PV} {k : Int} {n : Nat} {v : PV} (e : h[i]? = some (.lst xs)) (a : L2.ixN xs.length k = some n) : putIx (.ref i) (.int k) v h = some (h.set i (.lst (xs.set n v))) := by
  simp only [putIx, e, a]; rfl
theorem roll_ok {h : Hm} {i : Nat} {many : Int} (D : Dice h i) (h1 : 0 < many) (h2 : many ≤ 100000000) (R : PF) : ∃ r h', bodyF 2 3 (B__law_roll R) [.ref i, .int many] h = .ok (.int r) h' ∧ 0 ≤ r ∧ r < many ∧ Dice h' i ∧ h'.length = h.length := by
  obtain ⟨a, b, c, e⟩ := D.ex
  have i0 : fIx (.ref i) (.int 0) h = .ok (.int a) h := ix_ref e rfl
  have i2 : fIx (.ref i) (.int 2) h = .ok (.int c) h := ix_ref e rfl
  have q2 : ∀ k : Int, mTst (mOp (pure2 gEq) (mOp fIx (mVar 0) (mC (.int 2))) (mC (.int k))) (startP 3 [.ref i, .int many]) h = .ok (decide (c = k)) h := fun k => tst_ (op2_ (op_ rfl rfl i2) rfl (gEq_int _ _))
  have q0 : mTst (mOp (pure2 gGt) (mOp fIx (mVar 0) (mC (.int 0))) (mC (.int 0))) (startP 3 [.ref i, .int many]) h = .ok (decide (0 < a)) h := tst_ (op2_ (op_ rfl rfl i0) rfl (gGt_int _ _))
  by_cases hc : c = 2 ∨ (c = 1 ∧ 0 < a)
  · refine ⟨a % many, h.set i (.lst [.int (a / many), .int b, .int c]), body_rt rfl (seq_rt (sif_t (h1 := h) ?_ (seq_ (sset_ (op2_ (call_ (cons_ (op_ rfl rfl i0) rfl) rfl) rfl (by simp only [gMod]; rw [if_pos h1]))) (seq_ (ssetix_ (op2_ (op_ rfl rfl i0) rfl (by simp only [gDiv]; rw [if_pos ⟨h1, by omega⟩])) rfl rfl (put_ref e rfl)) (sret_ rfl))))), Int.emod_nonneg _ (by omega), Int.emod_lt_of_pos _ h1, ⟨⟨a / many, b, c, set_at e⟩⟩, by simp⟩
    rcases hc with rfl | ⟨rfl, h0⟩
    · exact or_t ((q2 2).trans rfl)
    · refine or_f ((q2 2).trans rfl) (and_t ((q2 1).trans rfl) (q0.trans ?_))
      rw [decide_eq_true h0]
  · have ht : mOr (mTst (mOp (pure2 gEq) (mOp fIx (mVar 0) (mC (.int 2))) (mC (.int 2)))) (mAnd (mTst (mOp (pure2 gEq) (mOp fIx (mVar 0) (mC (.int 2))) (mC (.int 1)))) (mTst (mOp (pure2 gGt) (mOp fIx (mVar 0) (mC (.int 0))) (mC (.int 0))))) (startP 3 [.ref i, .int many]) h = .ok false h := by
      refine or_f ((q2 2).trans (by rw [decide_eq_false (fun z => hc (.inl z))])) ?_
      by_cases c1 : c = 1
      · exact and_t ((q2 1).trans (by rw [decide_eq_true c1])) (q0.trans (by rw [decide_eq_false (fun z => hc (.inr ⟨c1, z⟩))]))
      · exact and_f ((q2 1).trans (by rw [decide_eq_false c1]))
    generalize hA : (a * 48271 + b * 69621 + 11) % 2147483647 = A
    have e1 : (h.set i (.lst [.int a, .int b, .int 0]))[i]? = some (.lst [.int a, .int b, .int 0]) := set_at e
    have e2 : ((h.set i (.lst [.int a, .int b, .int 0])).set i (.lst [.int A, .int b, .int 0]))[i]? = some (.lst [.int A, .int b, .int 0]) := set_at e1
    have e3 : (((h.set i (.lst [.int a, .int b, .int 0])).set i (.lst [.int A, .int b, .int 0])).set i (.lst [.int A, .int (b + 1), .int 0]))[i]? = some (.lst [.int A, .int (b + 1), .int 0]) := set_at e2
    have mul : ∀ x k : Int, -(2 ^ 64) < k ∧ k < 2 ^ 64 → gMul (.int x) (.int k) = some (.int (x * k)) := fun x k hk => by simp only [gMul]; rw [if_pos (.inr hk)]
    refine ⟨(A / 7) % many, _, body_rt rfl (seq_ (sif_f ht rfl) (seq_ (ssetix_ rfl rfl rfl (put_ref e rfl)) (seq_ (sif_f (tst_ (op2_ rfl rfl ((gGt_int _ _).trans (by rw [decide_eq_false (by omega)])))) rfl)
      (seq_ (ssetix_ (op2_ (call_ (cons_ (op_ (op_ (op2_ (op_ rfl rfl (ix_ref e1 rfl)) rfl (mul _ _ (by decide))) (op2_ (op_ rfl rfl (ix_ref e1 rfl)) rfl (mul _ _ (by decide))) rfl) rfl rfl) rfl) rfl) rfl (by simp only [gMod]; rw [if_pos (by decide), hA])) rfl rfl (put_ref e1 rfl))
      (seq_ (ssetix_ (op_ (op_ rfl rfl (ix_ref e2 rfl)) rfl rfl) rfl rfl (put_ref e2 rfl))
      (sret_ (op2_ (call_ (cons_ (op2_ (op_ rfl rfl (ix_ref e3 rfl)) rfl (by simp only [gDiv]; rw [if_pos (by decide)])) rfl) rfl) rfl (by simp only [gMod]; rw [if_pos h1])))))))), Int.emod_nonneg _ (by omega), Int.emod_lt_of_pos _ h1, ⟨⟨A, b + 1, 0, e3⟩⟩, by simp⟩
theorem law_roll {h : Hm} {i : Nat} {many : Int} (D : Dice h i) (h1 : 0 < many) (h2 : many ≤ 100000000) : ∃ r h', f__law_roll [.ref i, .int many] h = .ok (.int r) h' ∧ 0 ≤ r ∧ r < many ∧ Dice h' i ∧ h'.length = h.length := roll_ok D h1 h2 _
end K01
end
section
set_option Elab.async false
set_option linter.all false
set_option maxRecDepth 100000
set_option maxHeartbeats 4000000
namespace K01
open PySem PySem.Spec PM PL
/-! ### the versions that are drawn -/
def earlies : List PV := [.tup [], .tup [], .tup [.int 0], .tup [.str "a"], .tup [.str "a", .int 1], .tup [.int 2]]
def earl : List PV := [.tup [], .tup [.int 0], .tup [.str "a"], .tup [.str "a", .int 1], .tup [.int 2]]
def nums : List Int := [0, 1, 2]
def vs : List PV := nums.flatMap fun a => nums.flatMap fun b => nums.flatMap fun c => earl.map fun e => .tup [.int a, .int b, .int c, e]
theorem nums_of {r : Int} (h0 : 0 ≤ r) (h1 : r < 3) : r ∈ nums := by
  have : r = 0 ∨ r = 1 ∨ r = 2 := by omega
  rcases this with rfl | rfl | rfl <;> decide
theorem earl_at {r : Int} (h0 : 0 ≤ r) (h1 : r < 6) : ∃ e, (∀ h, fIx (.lst earlies) (.int r) h = .ok e h) ∧ e ∈ earl := by
  have : r = 0 ∨ r = 1 ∨ r = 2 ∨ r = 3 ∨ r = 4 ∨ r = 5 := by omega
  rcases this with rfl | rfl | rfl | rfl | rfl | rfl
  · exact ⟨.tup [], fun _ => rfl, by simp [earl]⟩
  · exact ⟨.tup [], fun _ => rfl, by simp [earl]⟩
  · exact ⟨.tup [.int 0], fun _ => rfl, by simp [earl]⟩
  · exact ⟨.tup [.str "a"], fun _ => rfl, by simp [earl]⟩
  · exact ⟨.tup [.str "a", .int 1], fun _ => rfl, by simp [earl]⟩
  · exact ⟨.tup [.int 2], fun _ => rfl, by simp [earl]⟩
theorem vs_of {a b c : Int} {e : PV} (ha : a ∈ nums) (hb : b ∈ nums) (hc : c ∈ nums) (he : e ∈ earl) : .tup [.int a, .int b, .int c, e] ∈ vs :=
  List.mem_flatMap.mpr ⟨a, ha, List.mem_flatMap.mpr ⟨b, hb, List.mem_flatMap.mpr ⟨c, hc, List.mem_map.mpr ⟨e, he, rfl⟩⟩⟩⟩
theorem version_ok {h : Hm} {i : Nat} (D : Dice h i) : ∃ v h', f__law_version [.ref i] h = .ok v h' ∧ v ∈ vs ∧ Dice h' i ∧ h'.length = h.length := by
  obtain ⟨r0, h0, q0, a0, b0, D0, l0⟩ := law_roll (many := 6) D (by decide) (by decide)
  obtain ⟨e, he, me⟩ := earl_at a0 b0
  obtain ⟨r1, h1, q1, a1, b1, D1, l1⟩ := law_roll (many := 3) D0 (by decide) (by decide)
  obtain ⟨r2, h2, q2, a2, b2, D2, l2⟩ := law_roll (many := 3) D1 (by decide) (by decide)
  obtain ⟨r3, h3, q3, a3, b3, D3, l3⟩ := law_roll (many := 3) D2 (by decide) (by decide)
  refine ⟨.tup [.int r1, .int r2, .int r3, e], h3, body_rt rfl (seq_ (sset_ (op_ rfl (call_ (cons_ rfl (cons_ rfl rfl)) q0) (he h0))) (sret_ ?_)), vs_of (nums_of a1 b1) (nums_of a2 b2) (nums_of a3 b3) me, D3, by omega⟩
  have hm : mCons (mCall f__law_roll (mCons (mVar 0) (mCons (mC (.int 3)) (mNil)))) (mCons (mCall f__law_roll (mCons (mVar 0) (mCons (mC (.int 3)) (mNil)))) (mCons (mCall f__law_roll (mCons (mVar 0) (mCons (mC (.int 3)) (mNil)))) (mCons (mVar 1) (mNil)))) [.val (.ref i), .val e] h0 = .ok [.int r1, .int r2, .int r3, e] h3 :=
    cons_ (call_ (cons_ rfl (cons_ rfl rfl)) q1) (cons_ (call_ (cons_ rfl (cons_ rfl rfl)) q2) (cons_ (call_ (cons_ rfl (cons_ rfl rfl)) q3) (cons_ rfl rfl)))
  show mTup _ [.val (.ref i), .val e] h0 = _
  unfold mTup
  rw [hm]
  rfl
end K01
end
section
set_option Elab.async false
set_option linter.all false
set_option maxRecDepth 100000
set_option maxHeartbeats 0
namespace K01
open PySem PySem.Spec PM PL
def okS (r : Res PV) : Str := match r with
  | .ok (.str s) _ => s
  | _ => ""
def txt (v : PV) : Str := okS (f__law_text [v] [])
def okV (r : Res PV) : PV := match r with
  | .ok v _ => v
  | _ => .non
def key (v : PV) : PV := okV (f__law_key [v] [])
def ord (v w : PV) : PV := okV (f_order [v, w] [])
theorem txt_all : vs.map (fun v => fun h => f__law_text [v] h) = vs.map (fun v => fun h => .ok (.str (txt v)) h) := by kernel_rfl
theorem read_all : vs.map (fun v => fun h => f_read_version [.str (txt v)] h) = vs.map (fun v => fun h => .ok v h) := by kernel_rfl
theorem told_all : vs.map (fun v => fun h => f_told_version [v] h) = vs.map (fun v => fun h => .ok (.str (txt v)) h) := by kernel_rfl
theorem read2_all : vs.map (fun v => fun h => f_read_version [.str (txt v ++ "+b.7")] h) = vs.map (fun v => fun h => .ok v h) := by kernel_rfl
theorem key_all : vs.map (fun v => fun h => f__law_key [v] h) = vs.map (fun v => fun h => .ok (key v) h) := by kernel_rfl
end K01
end
section
set_option Elab.async false
set_option linter.all false
set_option maxRecDepth 100000
set_option maxHeartbeats 4000000
namespace K01
open PySem PySem.Spec PM PL
theorem compL_inv {g : Gm} {mt : M Bool} {me : M PV} {e : En} (I : Hm → Prop) (P : PV → Prop) : ∀ {ds : List PV} {h : Hm}, (∀ d ∈ ds, ∃ e1, g d e = some e1 ∧ ∀ h, I h → mt e1 h = .ok true h ∧ ∃ v h', me e1 h = .ok v h' ∧ P v ∧ I h') → I h →
    ∃ xs h', compL g mt me e ds h = .ok xs h' ∧ xs.length = ds.length ∧ (∀ x ∈ xs, P x) ∧ I h'
  | [], h, _, hi => ⟨[], h, rfl, rfl, by simp, hi⟩
  | d :: ds, h, hg, hi => by
    obtain ⟨e1, g1, k⟩ := hg d List.mem_cons_self
    obtain ⟨t1, v, h', m1, p1, i1⟩ := k h hi
    obtain ⟨xs, h2, c2, l2, p2, i2⟩ := compL_inv (e := e) I P (ds := ds) (h := h') (fun d hd => hg d (List.mem_cons_of_mem _ hd)) i1
    refine ⟨v :: xs, h2, ?_, by simp [l2], fun x hx => ?_, i2⟩
    · simp only [compL, g1, t1, m1, c2, bind_ok, if_true]
    · rcases List.mem_cons.mp hx with rfl | hx
      · exact p1
      · exact p2 x hx
/-- rows -/
theorem rows_ok {h : Hm} {i : Nat} {e : En} (D : Dice h i) (h1 : e[1]? = some (.val (.ref i))) (hl : e.length = 26) :
    ∃ rows h', mLc [21] (mRng (mCons (mOp (fAdd) (mC (.int 1)) (mCall f__law_roll (mCons (mVar 1) (mCons (mC (.int 8)) (mNil))))) (mNil))) (gNm 21) (mYes) (mCall f__law_version (mCons (mVar 1) (mNil))) e h = .ok (.lst rows) h' ∧ 0 < rows.length ∧ rows.length ≤ 8 ∧ (∀ v ∈ rows, v ∈ vs) ∧ Dice h' i ∧ h'.length = h.length := by
  obtain ⟨r, h2, q, a, b, D2, l2⟩ := law_roll (many := 8) D (by decide) (by decide)
  have v1 : mVar 1 e h = .ok (.ref i) h := by unfold mVar; rw [h1]
  have hr : mRng (mCons (mOp (fAdd) (mC (.int 1)) (mCall f__law_roll (mCons (mVar 1) (mCons (mC (.int 8)) (mNil))))) (mNil)) e h = .ok (.row (rngRow 0 1 (1 + r).toNat)) h2 := by
    unfold mRng
    rw [cons_ (op_ rfl (call_ (cons_ v1 (cons_ rfl rfl)) q) rfl) rfl]
    show fRng [.int (1 + r)] h2 = _
    show (if -2 ^ 62 ≤ 1 + r ∧ 1 + r < 2 ^ 62 then Res.ok (Src.row (rngRow 0 1 (1 + r).toNat)) h2 else Res.stuck) = _
    rw [if_pos (by omega)]
  have hlen : (rngRow 0 1 (1 + r).toNat).length = (1 + r).toNat := by unfold rngRow; rw [List.length_map, List.length_range]
  obtain ⟨xs, h3, c3, l3, p3, i3⟩ := compL_inv (g := gNm 21) (mt := mYes) (me := mCall f__law_version (mCons (mVar 1) (mNil))) (e := wipeE e [21]) (fun h' => Dice h' i ∧ h'.length = h.length) (fun v => v ∈ vs) (ds := rngRow 0 1 (1 + r).toNat) (h := h2)
    (fun d _ => ⟨_, rfl, fun h' ⟨D', l'⟩ => ⟨rfl, by
      obtain ⟨v, h4, q4, m4, D4, l4⟩ := version_ok D'
      have v2 : mVar 1 ((wipeE e [21]).set 21 (.val d)) h' = .ok (.ref i) h' := by
        unfold mVar wipeE wipeE
        rw [List.getElem?_set_ne (by decide), List.getElem?_set_ne (by decide), h1]
      exact ⟨v, h4, call_ (cons_ v2 rfl) q4, m4, D4, by omega⟩⟩⟩) ⟨D2, l2⟩
  refine ⟨xs, h3, ?_, by omega, by omega, p3, i3.1, i3.2⟩
  unfold mLc
  rw [hr]
  show (compR _ _ _ _ (.row (rngRow 0 1 (1 + r).toNat)) h2).bind _ = _
  show (if (rngRow 0 1 (1 + r).toNat).length ≤ 1000000 then compL (gNm 21) mYes (mCall f__law_version (mCons (mVar 1) mNil)) (wipeE e [21]) (rngRow 0 1 (1 + r).toNat) h2 else Res.stuck).bind _ = _
  rw [if_pos (by omega), c3]
  rfl
end K01
end
section
set_option Elab.async false
set_option linter.all false
set_option maxRecDepth 100000
set_option maxHeartbeats 4000000
namespace K01
open PySem PySem.Spec PM PL
theorem at_all {F G : PV → Hm → Res PV} (e : vs.map F = vs.map G) {v : PV} (hv : v ∈ vs) (h : Hm) : F v h = G v h := congrFun (List.map_inj_left.mp e v hv) h
def kk (v : PV) : PV := okV (f_key_of [v] [])
theorem kk_all : vs.map (fun v => fun h => f_key_of [v] h) = vs.map (fun v => fun h => .ok (kk v) h) := by kernel_rfl
/-! ### the two keys of a version, in plain data -/
def pD (p : PyData) : PyData := match p with
  | .int i => .tuple [.int 0, .int i, .str ""]
  | x => .tuple [.int 1, .int 0, x]
def kT (e : List PyData) : List PyData := match e with
  | [] => [.tuple [.int 1]]
  | e => [.tuple [.int 0, .tuple (e.map pD)]]
def lT (e : List PyData) : List PyData := match e with
  | [] => [.int 1, .tuple []]
  | e => [.int 0, .tuple (e.map pD)]
def row3 (a b c : Int) (t : List PyData) : PyData := .tuple (.int a :: .int b :: .int c :: t)
def eD : PV → List PyData := fun e => match toDD e with
  | .tuple ds => ds
  | _ => []
def parts3 : PV → Int × Int × Int × List PyData := fun v => match v with
  | .tup [.int a, .int b, .int c, e] => (a, b, c, eD e)
  | _ => (0, 0, 0, [])
def kD (v : PV) : PyData := row3 (parts3 v).1 (parts3 v).2.1 (parts3 v).2.2.1 (kT (parts3 v).2.2.2)
def lD (v : PV) : PyData := row3 (parts3 v).1 (parts3 v).2.1 (parts3 v).2.2.1 (lT (parts3 v).2.2.2)
theorem kD_all : vs.map (fun v => toD (kk v)) = vs.map (fun v => some (kD v)) := by kernel_rfl
theorem lD_all : vs.map (fun v => toD (key v)) = vs.map (fun v => some (lD v)) := by kernel_rfl
theorem lt_cons {a a' : Int} {X Y : List PyData} : PySem.W.rowLt (.int a :: X) (.int a' :: Y) = if a = a' then PySem.W.rowLt X Y else decide (a < a') := by
  have e := PySem.W.dataLt_cons (x := .int a) (y := .int a') rfl X Y
  have q : PyData.eqv (.int a) (.int a') = decide (a = a') := by
    simp [PyData.eqv]
    by_cases h : a = a' <;> simp [h]
  rw [q, dataLt_int] at e
  unfold PySem.W.rowLt
  rw [e]
  by_cases h : a = a' <;> simp [h]
theorem lt_row3 {a b c a' b' c' : Int} {X Y : List PyData} : PySem.W.dataLt (row3 a b c X) (row3 a' b' c' Y) = if a = a' then (if b = b' then (if c = c' then PySem.W.rowLt X Y else decide (c < c')) else decide (b < b')) else decide (a < a') := by
  unfold row3
  rw [PySem.W.dataLt_tuple]
  show PySem.W.rowLt _ _ = _
  rw [lt_cons, lt_cons, lt_cons]
def earlD : List (List PyData) := earl.map eD
theorem early_lt : (earlD.all fun x => earlD.all fun y => PySem.W.rowLt (kT x) (kT y) == PySem.W.rowLt (lT x) (lT y)) = true := by kernel_rfl
theorem parts_mem {v : PV} (hv : v ∈ vs) : (parts3 v).2.2.2 ∈ earlD := by
  obtain ⟨a, ha, hv⟩ := List.mem_flatMap.mp hv
  obtain ⟨b, hb, hv⟩ := List.mem_flatMap.mp hv
  obtain ⟨c, hc, hv⟩ := List.mem_flatMap.mp hv
  obtain ⟨e, he, rfl⟩ := List.mem_map.mp hv
  exact List.mem_map.mpr ⟨e, he, rfl⟩
/-- the program's order of versions is the law's -/
theorem keys_lt {v w : PV} (hv : v ∈ vs) (hw : w ∈ vs) : PySem.W.dataLt (kD v) (kD w) = PySem.W.dataLt (lD v) (lD w) := by
  unfold kD lD
  rw [lt_row3, lt_row3]
  have h := List.all_eq_true.mp (List.all_eq_true.mp early_lt _ (parts_mem hv)) _ (parts_mem hw)
  rw [beq_iff_eq.mp h]
end K01
end
section
set_option Elab.async false
set_option linter.all false
set_option maxRecDepth 100000
set_option maxHeartbeats 4000000
namespace K01
open PySem PySem.Spec PM PL
open PyProof.Rows (b2i)
theorem early_alike : (earlD.all fun x => earlD.all fun y => PySem.W.alikeAll (kT x) (kT y) && PySem.W.alikeAll (lT x) (lT y)) = true := by kernel_rfl
theorem early_deep : (earlD.all fun x => decide (PyData.depthAll (kT x) ≤ 60) && decide (PyData.depthAll (lT x) ≤ 60)) = true := by kernel_rfl
theorem row3_clt {a b c a' b' c' : Int} {X Y : List PyData} (h : PySem.W.alikeAll X Y = true) (d : PyData.depthAll X ≤ 60) : CLt (row3 a b c X) (row3 a' b' c' Y) := by
  have h1 : PySem.W.alike (row3 a b c X) (row3 a' b' c' Y) = true := by simp [row3, PySem.W.alike, PySem.W.alikeAll, h]
  have h2 : (row3 a b c X).depth ≤ 64 := by
    simp [row3, PyData.depth, PyData.depthAll]
    omega
  unfold CLt okLt
  rw [h1, decide_eq_true h2]
  rfl
theorem kD_clt {v w : PV} (hv : v ∈ vs) (hw : w ∈ vs) : CLt (kD v) (kD w) :=
  row3_clt (Bool.and_eq_true_iff.mp (List.all_eq_true.mp (List.all_eq_true.mp early_alike _ (parts_mem hv)) _ (parts_mem hw))).1 (of_decide_eq_true (Bool.and_eq_true_iff.mp (List.all_eq_true.mp early_deep _ (parts_mem hv))).1)
theorem lD_clt {v w : PV} (hv : v ∈ vs) (hw : w ∈ vs) : CLt (lD v) (lD w) :=
  row3_clt (Bool.and_eq_true_iff.mp (List.all_eq_true.mp (List.all_eq_true.mp early_alike _ (parts_mem hv)) _ (parts_mem hw))).2 (of_decide_eq_true (Bool.and_eq_true_iff.mp (List.all_eq_true.mp early_deep _ (parts_mem hv))).2)
theorem kD_at {v : PV} (hv : v ∈ vs) : toD (kk v) = some (kD v) := List.map_inj_left.mp kD_all v hv
theorem lD_at {v : PV} (hv : v ∈ vs) : toD (key v) = some (lD v) := List.map_inj_left.mp lD_all v hv
theorem lt_of {x y : PV} {d e : PyData} (hx : toD x = some d) (hy : toD y = some e) (c : CLt d e) : gLt x y = some (.bl (PySem.W.dataLt d e)) := by
  unfold gLt gDD gLtv
  simp only [hx, hy]
  rw [if_pos c]; rfl
theorem gt_of {x y : PV} {d e : PyData} (hx : toD x = some d) (hy : toD y = some e) (c : CLt d e) : gGt x y = some (.bl (PySem.W.dataLt e d)) := by
  unfold gGt gDD
  simp only [hx, hy]
  rw [if_pos c]; rfl
def less (v w : PV) : Bool := PySem.W.dataLt (lD v) (lD w)
theorem order_ok {v w : PV} (hv : v ∈ vs) (hw : w ∈ vs) (h : Hm) : f_order [v, w] h = .ok (.int (b2i (less w v) - b2i (less v w))) h := by
  have kv := at_all kk_all hv h
  have kw := at_all kk_all hw h
  refine body_rt rfl (seq_ (h1 := h) (e1 := [.val v, .val w, .val (kk v), .val (kk w)]) ?_ (sret_ (op2_ (op2_ rfl rfl (gt_of (kD_at hv) (kD_at hw) (kD_clt hv hw))) (op2_ rfl rfl (lt_of (kD_at hv) (kD_at hw) (kD_clt hv hw))) ?_)))
  · have hm : mCons (mCall f_key_of (mCons (mVar 0) (mNil))) (mCons (mCall f_key_of (mCons (mVar 1) (mNil))) (mNil)) (startP 4 [v, w]) h = .ok [kk v, kk w] h := cons_ (call_ (cons_ rfl rfl) kv) (cons_ (call_ (cons_ rfl rfl) kw) rfl)
    unfold sPar2 bindS
    rw [hm]
    rfl
  · unfold less
    rw [← keys_lt hv hw, ← keys_lt hw hv]
    rfl
theorem key_at {v : PV} (hv : v ∈ vs) (h : Hm) : f__law_key [v] h = .ok (key v) h := at_all key_all hv h
end K01
end
section
set_option Elab.async false
set_option linter.all false
set_option maxRecDepth 100000
set_option maxHeartbeats 4000000
namespace K01
open PySem PySem.Spec PM PL
theorem eqv_row3 {a b c a' b' c' : Int} {X Y : List PyData} : PyData.eqv (row3 a b c X) (row3 a' b' c' Y) = (decide (a = a') && (decide (b = b') && (decide (c = c') && PyData.eqvAll X Y))) := by
  have q : ∀ x y : Int, PyData.eqv (.int x) (.int y) = decide (x = y) := fun x y => by
    simp [PyData.eqv]
    by_cases h : x = y <;> simp [h]
  unfold row3
  simp only [PyData.eqv, PyData.eqvAll]
  simp only [← q, PyData.eqv]
theorem early_eqv : (earlD.all fun x => earlD.all fun y => PyData.eqvAll (kT x) (kT y) == PyData.eqvAll (lT x) (lT y)) = true := by kernel_rfl
theorem keys_eqv {v w : PV} (hv : v ∈ vs) (hw : w ∈ vs) : PyData.eqv (kD v) (kD w) = PyData.eqv (lD v) (lD w) := by
  unfold kD lD
  rw [eqv_row3, eqv_row3]
  have h := List.all_eq_true.mp (List.all_eq_true.mp early_eqv _ (parts_mem hv)) _ (parts_mem hw)
  rw [beq_iff_eq.mp h]
/-- rows in order: by the key, then by the place -/
def rowLess (p q : Nat × PV) : Bool := if PyData.eqv (lD p.2) (lD q.2) = true then decide (p.1 < q.1) else less p.2 q.2
theorem int_eqv (x y : Int) : PyData.eqv (.int x) (.int y) = decide (x = y) := by
  simp [PyData.eqv]
  by_cases h : x = y <;> simp [h]
theorem kRow_lt {p q : Nat × PV} (hp : p.2 ∈ vs) (hq : q.2 ∈ vs) : PySem.W.dataLt (.tuple [kD p.2, .int p.1]) (.tuple [kD q.2, .int q.1]) = rowLess p q := by
  have ka := (kD_clt hp hq).all.1
  rw [PySem.W.dataLt_pair ka rfl, keys_eqv hp hq, keys_lt hp hq, int_eqv, dataLt_int]
  unfold rowLess less
  split
  · by_cases h : p.1 = q.1
    · simp [h]
    · have : ¬ ((p.1 : Int) = (q.1 : Int)) := by omega
      simp [this]
  · rfl
theorem lRow_lt {p q : Nat × PV} (hp : p.2 ∈ vs) (hq : q.2 ∈ vs) (X Y : PyData) (hn : p.1 = q.1 → X = Y) : PySem.W.dataLt (.tuple [lD p.2, .int p.1, X]) (.tuple [lD q.2, .int q.1, Y]) = rowLess p q := by
  have la := (lD_clt hp hq).all.1
  rw [PySem.W.dataLt_tuple, PySem.W.dataLt_cons la, PySem.W.dataLt_cons (x := .int p.1) (y := .int q.1) rfl, int_eqv, dataLt_int]
  unfold rowLess less
  split
  · by_cases h : p.1 = q.1
    · have e := hn h
      subst e
      simp only [h, decide_true, if_true, Nat.lt_irrefl, decide_false]
      exact PyProof.Rows.lex_irrefl _
    · have : ¬ ((p.1 : Int) = (q.1 : Int)) := by omega
      simp [this]
  · rfl
end K01
end
section
set_option Elab.async false
set_option linter.all false
set_option maxRecDepth 100000
set_option maxHeartbeats 4000000
namespace K01
open PySem PySem.Spec PM PL
/-- the rows with their places -/
def idx (rows : List PV) : List (Nat × PV) := (List.range rows.length).map fun i => (i, rows.getD i .non)
theorem idx_mem {rows : List PV} (hr : ∀ v ∈ rows, v ∈ vs) {p : Nat × PV} (hp : p ∈ idx rows) : p.2 ∈ vs ∧ p.1 < rows.length ∧ p.2 = rows.getD p.1 .non := by
  obtain ⟨i, hi, rfl⟩ := List.mem_map.mp hp
  rw [List.mem_range] at hi
  refine ⟨hr _ ?_, hi, rfl⟩
  show rows.getD i .non ∈ rows
  rw [List.getD_eq_getElem?_getD, List.getElem?_eq_getElem hi]
  exact List.getElem_mem hi
theorem idx_len (rows : List PV) : (idx rows).length = rows.length := by unfold idx; simp
theorem idx_one {rows : List PV} {p q : Nat × PV} (hp : p ∈ idx rows) (hq : q ∈ idx rows) (h : p.1 = q.1) : p.2 = q.2 := by
  obtain ⟨i, _, rfl⟩ := List.mem_map.mp hp
  obtain ⟨j, _, rfl⟩ := List.mem_map.mp hq
  have : i = j := h
  rw [this]
theorem pairRow_idx (rows : List PV) : pairRow rows = (idx rows).map fun p => .tup [.int p.1, p.2] := by
  unfold pairRow idx
  rw [List.map_map]; rfl
theorem toDs_map {α : Type} {f : α → PV} {g : α → PyData} : ∀ {l : List α}, (∀ a ∈ l, toD (f a) = some (g a)) → toDs (l.map f) = some (l.map g)
  | [], _ => by simp [toDs]
  | a :: l, h => by
    have h1 := h a List.mem_cons_self
    have h2 := toDs_map (l := l) fun x hx => h x (List.mem_cons_of_mem _ hx)
    simp only [List.map_cons, toDs, h1, h2]
def kRow (p : Nat × PV) : PV := .tup [kk p.2, .int p.1]
def lRow (p : Nat × PV) : PV := .tup [key p.2, .int p.1, p.2]
theorem toD_tup {xs : List PV} {ds : List PyData} (h : toDs xs = some ds) : toD (.tup xs) = some (.tuple ds) := by simp only [toD, h]
theorem kRow_at {p : Nat × PV} (hp : p.2 ∈ vs) : toD (kRow p) = some (.tuple [kD p.2, .int p.1]) := toD_tup (by simp only [toDs, kD_at hp, toD])
def vD (v : PV) : PyData := toDD v
theorem vD_all : vs.map toD = vs.map (fun v => some (vD v)) := by kernel_rfl
theorem vD_deep : (vs.all fun v => decide ((vD v).depth ≤ 60)) = true := by kernel_rfl
theorem vD_self : (vs.all fun v => PySem.W.alike (vD v) (vD v)) = true := by kernel_rfl
theorem lRow_at {p : Nat × PV} (hp : p.2 ∈ vs) : toD (lRow p) = some (.tuple [lD p.2, .int p.1, vD p.2]) := toD_tup (by
  have h := List.map_inj_left.mp vD_all _ hp
  simp only [toDs, lD_at hp, toD, h])
theorem kRow_ok {rows : List PV} (hr : ∀ v ∈ rows, v ∈ vs) : okSort ((idx rows).map fun p => .tuple [kD p.2, .int p.1]) = true := by
  unfold okSort
  rw [Bool.and_eq_true, Bool.and_eq_true, Bool.or_eq_true]
  refine ⟨List.all_eq_true.mpr fun d hd => List.all_eq_true.mpr fun e he => ?_, .inl (List.all_eq_true.mpr fun d hd => ?_), List.all_eq_true.mpr fun d hd => ?_⟩
  · obtain ⟨p, hp, rfl⟩ := List.mem_map.mp hd
    obtain ⟨q, hq, rfl⟩ := List.mem_map.mp he
    have ka := (kD_clt (idx_mem hr hp).1 (idx_mem hr hq).1).all.1
    simp [PMS.pa, PMS.paAll, ka, PySem.W.alike]
  · obtain ⟨p, hp, rfl⟩ := List.mem_map.mp hd
    rfl
  · obtain ⟨p, hp, rfl⟩ := List.mem_map.mp hd
    have hm := (idx_mem hr hp).1
    have := of_decide_eq_true (Bool.and_eq_true_iff.mp (List.all_eq_true.mp early_deep _ (parts_mem hm))).1
    refine decide_eq_true ?_
    simp [PyData.depth, PyData.depthAll, kD, row3]
    omega
theorem lRow_ok {rows : List PV} (hr : ∀ v ∈ rows, v ∈ vs) : okSort ((idx rows).map fun p => .tuple [lD p.2, .int p.1, vD p.2]) = true := by
  unfold okSort
  rw [Bool.and_eq_true, Bool.and_eq_true, Bool.or_eq_true]
  refine ⟨List.all_eq_true.mpr fun d hd => List.all_eq_true.mpr fun e he => ?_, .inl (List.all_eq_true.mpr fun d hd => ?_), List.all_eq_true.mpr fun d hd => ?_⟩
  · obtain ⟨p, hp, rfl⟩ := List.mem_map.mp hd
    obtain ⟨q, hq, rfl⟩ := List.mem_map.mp he
    have la := (lD_clt (idx_mem hr hp).1 (idx_mem hr hq).1).all.1
    have sf := List.all_eq_true.mp vD_self _ (idx_mem hr hp).1
    by_cases h : p.1 = q.1
    · have e := idx_one hp hq h
      have lp := (lD_clt (idx_mem hr hp).1 (idx_mem hr hp).1).all.1
      simp [PMS.pa, PMS.paAll, PySem.W.alike, int_eqv, h, ← e, sf, lp]
    · have : ¬ ((p.1 : Int) = (q.1 : Int)) := by omega
      simp [PMS.pa, PMS.paAll, la, PySem.W.alike, int_eqv, this]
  · obtain ⟨p, hp, rfl⟩ := List.mem_map.mp hd
    rfl
  · obtain ⟨p, hp, rfl⟩ := List.mem_map.mp hd
    have hm := (idx_mem hr hp).1
    have h1 := of_decide_eq_true (Bool.and_eq_true_iff.mp (List.all_eq_true.mp early_deep _ (parts_mem hm))).2
    have h2 := of_decide_eq_true (List.all_eq_true.mp vD_deep _ hm)
    refine decide_eq_true ?_
    simp [PyData.depth, PyData.depthAll, lD, row3]
    omega
/-- the order of the rows -/
def so (rows : List PV) : List (Nat × PV) := isortA (fun p q => !rowLess q p) (idx rows)
theorem kRow_sort {rows : List PV} (hr : ∀ v ∈ rows, v ∈ vs) : isortD ((idx rows).map kRow) = (so rows).map kRow := by
  rw [isortD_map]
  unfold so
  rw [isortA_congr fun p hp q hq => ?_]
  rw [leD_eq (kRow_at (idx_mem hr hp).1) (kRow_at (idx_mem hr hq).1), kRow_lt (idx_mem hr hq).1 (idx_mem hr hp).1]
theorem lRow_sort {rows : List PV} (hr : ∀ v ∈ rows, v ∈ vs) : isortD ((idx rows).map lRow) = (so rows).map lRow := by
  rw [isortD_map]
  unfold so
  rw [isortA_congr fun p hp q hq => ?_]
  rw [leD_eq (lRow_at (idx_mem hr hp).1) (lRow_at (idx_mem hr hq).1), lRow_lt (idx_mem hr hq).1 (idx_mem hr hp).1 _ _ fun h => by rw [idx_one hq hp h]]
end K01
end
section
set_option Elab.async false
set_option linter.all false
set_option maxRecDepth 100000
set_option maxHeartbeats 4000000
namespace K01
open PySem PySem.Spec PM PL
theorem genL_ {vsx : List Nat} {xs : List Str} {fin : List PV → Hm → Res PV} {mi : M Src} {g : Gm} {mt : M Bool} {me : M PV} {e : En} {h : Hm} {ds ys : List PV} {r : Res PV} (hi : mi e h = .ok (.row ds) h) (hl : ds.length ≤ 1000000) (hc : compL g (chkM xs mt) (chkM xs me) (wipeE e vsx) ds h = .ok ys h) (hf : fin ys h = r) : mGenL vsx xs fin mi g mt me e h = r := by
  unfold mGenL
  rw [hi]
  show (compR g (chkM xs mt) (chkM xs me) (wipeE e vsx) (.row ds) h).bind _ = _
  show (if ds.length ≤ 1000000 then compL g (chkM xs mt) (chkM xs me) (wipeE e vsx) ds h else Res.stuck).bind _ = _
  rw [if_pos hl, hc]
  exact hf
theorem chk_ok {α : Type} {xs : List Str} {m : M α} {e : En} {h h' : Hm} {v : α} (q : m e h = .ok v h') : chkM xs m e h = .ok v h' := by
  unfold chkM; rw [q]; rfl
theorem compL_map {α : Type} {g : Gm} {mt : M Bool} {me : M PV} {e : En} {h : Hm} {F f : α → PV} : ∀ {l : List α}, (∀ a ∈ l, ∃ e1, g (F a) e = some e1 ∧ mt e1 h = .ok true h ∧ me e1 h = .ok (f a) h) → compL g mt me e (l.map F) h = .ok (l.map f) h
  | [], _ => rfl
  | a :: l, k => by
    obtain ⟨e1, g1, t1, m1⟩ := k a List.mem_cons_self
    have ih := compL_map (e := e) (l := l) fun x hx => k x (List.mem_cons_of_mem _ hx)
    simp only [List.map_cons, compL, g1, t1, m1, ih, bind_ok, if_true]
theorem atI_nat {xs : List PV} {i : Nat} (hi : i < xs.length) : L2.atI xs (i : Int) = some (xs.getD i .non) := by
  unfold L2.atI L2.ixN
  rw [List.getD_eq_getElem?_getD, List.getElem?_eq_getElem hi]
  simp [hi]
theorem in_order_ok {rows : List PV} {x : PV} (hx : x = .lst rows ∨ x = .tup rows) (hr : ∀ v ∈ rows, v ∈ vs) (hl : rows.length ≤ 1000) (h : Hm) : f_in_order [x] h = .ok (.tup ((so rows).map (·.2))) h := by
  have hsl : (so rows).length = rows.length := by unfold so; rw [isortA_len, idx_len]
  have hmem : ∀ p ∈ so rows, p ∈ idx rows := fun p hp => isortA_mem hp
  have en : mEnum (mVar 0) (startP 5 [x]) h = .ok (.row (pairRow rows)) h := by
    rcases hx with rfl | rfl <;> rfl
  have s1 : sSet 1 (mGenL [2, 3] excs finSort (mEnum (mVar 0)) (gTp 2 (gsCons (gNm 2) (gsCons (gNm 3) (gsNil)))) (mYes) (mTup (mCons (mCall f_key_of (mCons (mVar 3) (mNil))) (mCons (mVar 2) (mNil))))) (startP 5 [x]) h = .nx ((startP 5 [x]).set 1 (.val (.lst ((so rows).map kRow)))) h := by
    refine sset_ (genL_ en (by rw [pairRow_idx, List.length_map, idx_len]; omega) (ys := (idx rows).map kRow) ?_ ?_)
    · rw [pairRow_idx]
      refine compL_map fun p hp => ⟨_, rfl, chk_ok rfl, chk_ok ?_⟩
      have kp := at_all kk_all (idx_mem hr hp).1 h
      have hm : mCons (mCall f_key_of (mCons (mVar 3) (mNil))) (mCons (mVar 2) (mNil)) [.val x, .no, .val (.int p.1), .val p.2, .no] h = .ok [kk p.2, .int p.1] h := cons_ (call_ (cons_ rfl rfl) kp) rfl
      show mTup _ [.val x, .no, .val (.int p.1), .val p.2, .no] h = _
      unfold mTup
      rw [hm]; rfl
    · unfold finSort sortP
      rw [toDs_map fun p hp => kRow_at (idx_mem hr hp).1]
      show (match (if okSort _ = true ∧ _ then some (isortD ((idx rows).map kRow)) else none) with | some zs => Res.ok (PV.lst zs) h | none => .stuck) = _
      rw [if_pos ⟨kRow_ok hr, by rw [List.length_map, idx_len]; omega⟩, kRow_sort hr]
  refine body_rt rfl (seq_ s1 (sret_ (genL_ (ds := (so rows).map kRow) (ys := (so rows).map (·.2)) rfl (by rw [List.length_map, hsl]; omega) ?_ rfl)))
  refine compL_map fun p hp => ⟨_, rfl, chk_ok rfl, chk_ok ?_⟩
  obtain ⟨m1, m2, m3⟩ := idx_mem hr (hmem p hp)
  have fx : fIx x (.int p.1) h = .ok p.2 h := by
    rcases hx with rfl | rfl
    · show (match L2.atI rows (p.1 : Int) with | some v => Res.ok v h | none => .stuck) = _
      rw [atI_nat m2, ← m3]
    · show (match L2.atI rows (p.1 : Int) with | some v => Res.ok v h | none => .stuck) = _
      rw [atI_nat m2, ← m3]
  exact op_ rfl rfl fx
end K01
end
section
set_option Elab.async false
set_option linter.all false
set_option maxRecDepth 100000
set_option maxHeartbeats 4000000
namespace K01
open PySem PySem.Spec PM PL
theorem lc_ {vsx : List Nat} {mi : M Src} {g : Gm} {mt : M Bool} {me : M PV} {e : En} {h h1 h2 : Hm} {ds ys : List PV} (hi : mi e h = .ok (.row ds) h1) (hl : ds.length ≤ 1000000) (hc : compL g mt me (wipeE e vsx) ds h1 = .ok ys h2) : mLc vsx mi g mt me e h = .ok (.lst ys) h2 := by
  unfold mLc
  rw [hi]
  show (if ds.length ≤ 1000000 then compL g mt me (wipeE e vsx) ds h1 else Res.stuck).bind _ = _
  rw [if_pos hl, hc]
  rfl
theorem src_ {m : M PV} {e : En} {h h1 : Hm} {x : PV} {ds : List PV} (hm : m e h = .ok x h1) (hs : srcOf h1 x = some (.row ds)) : mSrc m e h = .ok (.row ds) h1 := by
  unfold mSrc
  rw [hm]
  show (match srcOf h1 x with | some s => Res.ok s h1 | none => .stuck) = _
  rw [hs]
/-- the law's own sorted rows -/
theorem sorts_ok {rows : List PV} {e : En} (he : e.length = 26) (e2 : e[2]? = some (.val (.lst rows))) (hr : ∀ v ∈ rows, v ∈ vs) (hl : rows.length ≤ 1000) (h : Hm) :
    mLc [22, 21, 23] (mSrc (mCall fSorted (mCons (mLc [21, 23] (mEnum (mVar 2)) (gTp 2 (gsCons (gNm 21) (gsCons (gNm 23) (gsNil)))) (mYes) (mTup (mCons (mCall f__law_key (mCons (mVar 23) (mNil))) (mCons (mVar 21) (mCons (mVar 23) (mNil)))))) mNil))) (gTp 3 (gsCons (gNm 22) (gsCons (gNm 21) (gsCons (gNm 23) (gsNil))))) (mYes) (mVar 23) e h = .ok (.lst ((so rows).map (·.2))) h := by
  have hsl : (so rows).length = rows.length := by unfold so; rw [isortA_len, idx_len]
  have v2 : mVar 2 e h = .ok (.lst rows) h := by unfold mVar; rw [e2]
  have en : mEnum (mVar 2) e h = .ok (.row (pairRow rows)) h := by unfold mEnum; rw [v2]; rfl
  have slot : ∀ (f : En) (i : Nat) (x : PV), i < f.length → mVar i (f.set i (.val x)) h = .ok x h := fun f i x hi => by
    unfold mVar; rw [List.getElem?_set_self hi]
  have c1 : mLc [21, 23] (mEnum (mVar 2)) (gTp 2 (gsCons (gNm 21) (gsCons (gNm 23) (gsNil)))) (mYes) (mTup (mCons (mCall f__law_key (mCons (mVar 23) (mNil))) (mCons (mVar 21) (mCons (mVar 23) (mNil))))) e h = .ok (.lst ((idx rows).map lRow)) h := by
    refine lc_ en (by rw [pairRow_idx, List.length_map, idx_len]; omega) ?_
    rw [pairRow_idx]
    refine compL_map fun p hp => ⟨((wipeE e [21, 23]).set 21 (.val (.int p.1))).set 23 (.val p.2), rfl, rfl, ?_⟩
    have lw : (wipeE e [21, 23]).length = 26 := by simp [wipeE, he]
    have m23 : mVar 23 (((wipeE e [21, 23]).set 21 (.val (.int p.1))).set 23 (.val p.2)) h = .ok p.2 h := slot _ _ _ (by rw [List.length_set, lw]; decide)
    have m21 : mVar 21 (((wipeE e [21, 23]).set 21 (.val (.int p.1))).set 23 (.val p.2)) h = .ok (.int p.1) h := by
      unfold mVar
      rw [List.getElem?_set_ne (by decide), List.getElem?_set_self (by rw [lw]; decide)]
    have hm := cons_ (call_ (cons_ m23 (ms := mNil) rfl) (key_at (idx_mem hr hp).1 h)) (cons_ m21 (cons_ m23 (ms := mNil) rfl))
    unfold mTup
    rw [hm]; rfl
  have c2 : fSorted [.lst ((idx rows).map lRow)] h = .ok (.lst ((so rows).map lRow)) h := by
    show (match sortP ((idx rows).map lRow) with | some zs => Res.ok (PV.lst zs) h | none => .stuck) = _
    unfold sortP
    rw [toDs_map fun p hp => lRow_at (idx_mem hr hp).1]
    show (match (if okSort _ = true ∧ _ then some (isortD ((idx rows).map lRow)) else none) with | some zs => Res.ok (PV.lst zs) h | none => .stuck) = _
    rw [if_pos ⟨lRow_ok hr, by rw [List.length_map, idx_len]; omega⟩, lRow_sort hr]
  refine lc_ (src_ (call_ (cons_ c1 rfl) c2) rfl) (by rw [List.length_map, hsl]; omega) ?_
  refine compL_map fun p hp => ⟨_, rfl, rfl, ?_⟩
  have lw : (wipeE e [22, 21, 23]).length = 26 := by simp [wipeE, he]
  exact slot _ _ _ (by rw [List.length_set, List.length_set, lw]; decide)
end K01
end
section
set_option Elab.async false
set_option linter.all false
set_option maxRecDepth 100000
set_option maxHeartbeats 0
namespace K01
open PySem PySem.Spec PM PL
/-- no early part -/
def em (v : PV) : Bool := (parts3 v).2.2.2.isEmpty
theorem em_all : vs.map (fun v => fun h => mOp (pure2 gEq) (mOp fIx (mC v) (mC (.int 3))) (mTup mNil) [] h) = vs.map (fun v => fun h => .ok (.bl (em v)) h) := by kernel_rfl
theorem em_at {v : PV} (hv : v ∈ vs) {m : M PV} {e : En} {h : Hm} (hm : m e h = .ok v h) : mOp (pure2 gEq) (mOp fIx m (mC (.int 3))) (mTup mNil) e h = .ok (.bl (em v)) h := by
  have q := at_all em_all hv h
  unfold mOp at q ⊢
  rw [hm]
  exact q
theorem bl_eqv (a b : Bool) : gNe (.bl a) (.bl b) = some (.bl (a != b)) := by cases a <;> cases b <;> rfl
def better (v w : PV) : Bool := if (em v != em w) = true then em v else less w v
theorem better_ok {v w : PV} (hv : v ∈ vs) (hw : w ∈ vs) (h : Hm) : f_is_better [v, w] h = .ok (.bl (better v w)) h := by
  have t : mTst (mOp (pure2 gNe) (mOp (pure2 gEq) (mOp fIx (mVar 0) (mC (.int 3))) (mTup mNil)) (mOp (pure2 gEq) (mOp fIx (mVar 1) (mC (.int 3))) (mTup mNil))) (startP 2 [v, w]) h = .ok (em v != em w) h := tst_ (op2_ (em_at hv rfl) (em_at hw rfl) (bl_eqv _ _))
  unfold better
  cases q : em v != em w with
  | true =>
    rw [q] at t
    exact body_rt rfl (seq_rt (sif_t t (sret_ (em_at hv rfl))))
  | false =>
    rw [q] at t
    refine body_rt rfl (seq_ (sif_f t rfl) (sret_ (op2_ (call_ (cons_ rfl (cons_ rfl rfl)) (order_ok hv hw h)) rfl ((gGt_int _ _).trans ?_))))
    have : ¬ (less w v = true ∧ less v w = true) := fun ⟨a, b⟩ => by
      have tr := (PyProof.Rows.listOrd PyProof.Rows.itemOrd).trans (PySem.W.keyToks (lD w)) (PySem.W.keyToks (lD v)) (PySem.W.keyToks (lD w)) a b
      have ir := (PyProof.Rows.listOrd PyProof.Rows.itemOrd).irrefl (PySem.W.keyToks (lD w))
      exact absurd (tr.symm.trans ir) (by decide)
    revert this
    cases less w v <;> cases less v w <;> simp [PyProof.Rows.b2i]
end K01
end
section
set_option Elab.async false
set_option linter.all false
set_option maxRecDepth 100000
set_option maxHeartbeats 4000000
namespace K01
open PySem PySem.Spec PM PL
/-- the best of rows, as newest finds it -/
def nbest : List PV → PV → PV
  | [], f => f
  | v :: r, f => nbest r (if better v f = true then v else f)
theorem nbest_mem : ∀ {r : List PV} {f : PV}, (∀ v ∈ r, v ∈ vs) → f ∈ vs → nbest r f ∈ vs
  | [], _, _, hf => hf
  | v :: r, f, hr, hf => by
    unfold nbest
    refine nbest_mem (fun w hw => hr w (List.mem_cons_of_mem _ hw)) ?_
    split
    · exact hr v List.mem_cons_self
    · exact hf
def nBody : Sm := sIf (mOr (mTst (mOp (pure2 gIsN) (mVar 1) (mC .non))) (mTst (mCall f_is_better (mCons (mVar 2) (mCons (mVar 1) (mNil)))))) (sSet 1 (mVar 2)) (sNext)
theorem n_loop {x : PV} {h : Hm} : ∀ {r : List PV} {f : PV} {s : Slot}, (∀ v ∈ r, v ∈ vs) → f ∈ vs → ∃ s', forL (gNm 2) nBody r [.val x, .val f, s] h = .nx [.val x, .val (nbest r f), s'] h
  | [], f, s, _, _ => ⟨s, rfl⟩
  | v :: r, f, s, hr, hf => by
    have hv := hr v List.mem_cons_self
    have hr' := fun w hw => hr w (List.mem_cons_of_mem v hw)
    have isn : gIsN f .non = some (.bl false) := by
      obtain ⟨a, _, q⟩ := List.mem_flatMap.mp hf
      obtain ⟨b, _, q⟩ := List.mem_flatMap.mp q
      obtain ⟨c, _, q⟩ := List.mem_flatMap.mp q
      obtain ⟨e, _, rfl⟩ := List.mem_map.mp q
      rfl
    have t : mOr (mTst (mOp (pure2 gIsN) (mVar 1) (mC .non))) (mTst (mCall f_is_better (mCons (mVar 2) (mCons (mVar 1) (mNil))))) [.val x, .val f, .val v] h = .ok (better v f) h :=
      or_f (tst_ (op2_ rfl rfl isn)) (tst_ (call_ (cons_ rfl (cons_ rfl rfl)) (better_ok hv hf h)))
    have st : nBody [.val x, .val f, .val v] h = .nx [.val x, .val (if better v f = true then v else f), .val v] h := by
      cases q : better v f with
      | true => rw [q] at t; exact sif_t t rfl
      | false => rw [q] at t; exact sif_f t rfl
    have hf' : (if better v f = true then v else f) ∈ vs := by split <;> assumption
    obtain ⟨s', ih⟩ := n_loop (x := x) (h := h) (s := .val v) hr' hf'
    refine ⟨s', ?_⟩
    unfold forL
    show (match nBody [.val x, .val f, .val v] h with | .nx e2 h2 => forL (gNm 2) nBody r e2 h2 | .ct e2 h2 => forL (gNm 2) nBody r e2 h2 | .bk e2 h2 => .nx e2 h2 | .rt v h2 => .rt v h2 | .exc c e2 h2 => .exc c e2 h2 | .stuck => .stuck) = _
    rw [st]
    exact ih
end K01
end
section
set_option Elab.async false
set_option linter.all false
set_option maxRecDepth 100000
set_option maxHeartbeats 4000000
namespace K01
open PySem PySem.Spec PM PL
theorem newest_ok {v : PV} {r : List PV} {h : Hm} (hv : v ∈ vs) (hr : ∀ w ∈ r, w ∈ vs) : f_newest [.lst (v :: r)] h = .ok (nbest r v) h := by
  obtain ⟨s', q⟩ := n_loop (x := .lst (v :: r)) (h := h) (s := .val v) hr hv
  refine body_rt rfl (seq_ (sset_ rfl) (seq_ (e1 := [.val (.lst (v :: r)), .val (nbest r v), s']) (h1 := h) ?_ (sret_ rfl)))
  show forL (gNm 2) nBody (v :: r) [.val (.lst (v :: r)), .val .non, .no] h = _
  unfold forL
  have st : nBody [.val (.lst (v :: r)), .val .non, .val v] h = .nx [.val (.lst (v :: r)), .val v, .val v] h := sif_t (or_t (tst_ (op2_ rfl rfl rfl))) rfl
  show (match nBody [.val (.lst (v :: r)), .val .non, .val v] h with | .nx e2 h2 => forL (gNm 2) nBody r e2 h2 | .ct e2 h2 => forL (gNm 2) nBody r e2 h2 | .bk e2 h2 => .nx e2 h2 | .rt v h2 => .rt v h2 | .exc c e2 h2 => .exc c e2 h2 | .stuck => .stuck) = _
  rw [st]
  exact q
end K01
end
section
set_option Elab.async false
set_option linter.all false
set_option maxRecDepth 100000
set_option maxHeartbeats 4000000
namespace K01
open PySem PySem.Spec PM PL
def bRow (v : PV) : PV := .tup [.bl (em v), key v]
def bD (v : PV) : PyData := .tuple [.bool (em v), lD v]
theorem bRow_at {v : PV} (hv : v ∈ vs) : toD (bRow v) = some (bD v) := toD_tup (by simp only [toDs, lD_at hv, toD])
theorem less_eqv {v w : PV} (hv : v ∈ vs) (hw : w ∈ vs) (e : PyData.eqv (lD v) (lD w) = true) : less v w = false := by
  have t := (PySem.W.toks_eqv _ _ (lD_clt hv hw).all.1).1 e
  unfold less PySem.W.dataLt
  rw [t]
  exact PyProof.Rows.lex_irrefl _
theorem bD_lt {v w : PV} (hv : v ∈ vs) (hw : w ∈ vs) : PySem.W.dataLt (bD v) (bD w) = better w v := by
  unfold bD
  rw [PySem.W.dataLt_pair (x := .bool (em v)) (x' := .bool (em w)) rfl (lD_clt hv hw).all.1]
  have hl := less_eqv hv hw
  unfold better
  have dl : PySem.W.dataLt (lD v) (lD w) = less v w := rfl
  rw [dl]
  cases hq : PyData.eqv (lD v) (lD w) with
  | true =>
    rw [hl hq]
    cases em v <;> cases em w <;> simp [PyData.eqv] <;> rfl
  | false =>
    cases em v <;> cases em w <;> simp [PyData.eqv] <;> rfl
theorem bD_fold : ∀ {r : List PV} {f : PV}, (∀ v ∈ r, v ∈ vs) → f ∈ vs → (r.map bD).foldl (fun a y => if PySem.W.dataLt a y = true then y else a) (bD f) = bD (nbest r f)
  | [], _, _, _ => rfl
  | v :: r, f, hr, hf => by
    have hv := hr v List.mem_cons_self
    rw [List.map_cons, List.foldl_cons, bD_lt hf hv]
    unfold nbest
    have : (if better v f = true then bD v else bD f) = bD (if better v f = true then v else f) := by split <;> rfl
    rw [this]
    exact bD_fold (fun w hw => hr w (List.mem_cons_of_mem _ hw)) (by split <;> assumption)
end K01
end
section
set_option Elab.async false
set_option linter.all false
set_option maxRecDepth 100000
set_option maxHeartbeats 0
namespace K01
open PySem PySem.Spec PM PL
/-- the drawn versions without early part -/
def vs0 : List PV := nums.flatMap fun a => nums.flatMap fun b => nums.map fun c => .tup [.int a, .int b, .int c, .tup []]
def kept0 (v w : PV) : PV := okV (f__law_kept [v, w] [])
theorem kept_all : vs0.map (fun v => vs0.map fun w => fun h => f_is_kept [v, w] h) = vs0.map (fun v => vs0.map fun w => fun h => .ok (kept0 v w) h) := by kernel_rfl
theorem lkept_all : vs0.map (fun v => vs0.map fun w => fun h => f__law_kept [v, w] h) = vs0.map (fun v => vs0.map fun w => fun h => .ok (kept0 v w) h) := by kernel_rfl
end K01
end
section
set_option Elab.async false
set_option linter.all false
set_option maxRecDepth 100000
set_option maxHeartbeats 0
namespace K01
open PySem PySem.Spec PM PL
theorem ne_all : vs.map (fun v => fun h => mOp (pure2 gNe) (mOp fIx (mC v) (mC (.int 3))) (mTup mNil) [] h) = vs.map (fun v => fun h => .ok (.bl (!em v)) h) := by kernel_rfl
theorem ne_at {v : PV} (hv : v ∈ vs) {m : M PV} {e : En} {h : Hm} (hm : m e h = .ok v h) : mOp (pure2 gNe) (mOp fIx m (mC (.int 3))) (mTup mNil) e h = .ok (.bl (!em v)) h := by
  have q := at_all ne_all hv h
  unfold mOp at q ⊢
  rw [hm]
  exact q
theorem vD_shaped : (vs.all fun v => SeqAt.shaped (vD v)) = true := by kernel_rfl
def eqB (v w : PV) : Bool := PyData.eqv (vD v) (vD w)
theorem vD_at {v : PV} (hv : v ∈ vs) : toD v = some (vD v) := List.map_inj_left.mp vD_all v hv
theorem eq_at {v w : PV} (hv : v ∈ vs) (hw : w ∈ vs) : gEq v w = some (.bl (eqB v w)) := by
  unfold gEq gEqv
  simp only [vD_at hv, vD_at hw]
  rw [if_pos ⟨List.all_eq_true.mp vD_shaped _ hv, List.all_eq_true.mp vD_shaped _ hw⟩]; rfl
theorem vs0_of {v : PV} (hv : v ∈ vs) (h : em v = true) : v ∈ vs0 := by
  obtain ⟨a, ha, q⟩ := List.mem_flatMap.mp hv
  obtain ⟨b, hb, q⟩ := List.mem_flatMap.mp q
  obtain ⟨c, hc, q⟩ := List.mem_flatMap.mp q
  obtain ⟨e, he, rfl⟩ := List.mem_map.mp q
  have : e = .tup [] := by
    simp only [earl, List.mem_cons, List.not_mem_nil, or_false] at he
    rcases he with rfl | rfl | rfl | rfl | rfl <;> first | rfl | (exact absurd (show false = true from h) (by decide))
  subst this
  exact List.mem_flatMap.mpr ⟨a, ha, List.mem_flatMap.mpr ⟨b, hb, List.mem_map.mpr ⟨c, hc, rfl⟩⟩⟩
theorem kept_bl : (vs0.all fun v => vs0.all fun w => match kept0 v w with | .bl _ => true | _ => false) = true := by kernel_rfl
theorem kept_ok {v w : PV} (hv : v ∈ vs) (hw : w ∈ vs) : ∃ b, ∀ h, f_is_kept [v, w] h = .ok (.bl b) h ∧ f__law_kept [v, w] h = .ok (.bl b) h := by
  have tq : ∀ (n : Nat) (h : Hm), 2 ≤ n → mTst (mOp (pure2 gEq) (mVar 0) (mVar 1)) (startP n [v, w]) h = .ok (eqB v w) h := fun n h hn => tst_ (op2_ rfl rfl (eq_at hv hw))
  cases q : eqB v w with
  | true =>
    refine ⟨true, fun h => ⟨body_rt rfl (seq_rt (sif_t ((tq 5 h (by decide)).trans (by rw [q])) rfl)), body_rt rfl (seq_rt (sif_t ((tq 2 h (by decide)).trans (by rw [q])) rfl))⟩⟩
  | false =>
    cases ev : em v with
    | false => exact ⟨false, fun h => ⟨body_rt rfl (seq_ (sif_f ((tq 5 h (by decide)).trans (by rw [q])) rfl) (seq_rt (sif_t (or_t (tst_ ((ne_at hv rfl).trans (by rw [ev]; rfl)))) rfl))), body_rt rfl (seq_ (sif_f ((tq 2 h (by decide)).trans (by rw [q])) rfl) (seq_rt (sif_t (or_t (tst_ ((ne_at hv rfl).trans (by rw [ev]; rfl)))) rfl)))⟩⟩
    | true =>
      cases ew : em w with
      | false => exact ⟨false, fun h => ⟨body_rt rfl (seq_ (sif_f ((tq 5 h (by decide)).trans (by rw [q])) rfl) (seq_rt (sif_t (or_f (tst_ ((ne_at hv rfl).trans (by rw [ev]; rfl))) (or_t (tst_ ((ne_at hw rfl).trans (by rw [ew]; rfl))))) rfl))), body_rt rfl (seq_ (sif_f ((tq 2 h (by decide)).trans (by rw [q])) rfl) (seq_rt (sif_t (or_f (tst_ ((ne_at hv rfl).trans (by rw [ev]; rfl))) (or_t (tst_ ((ne_at hw rfl).trans (by rw [ew]; rfl))))) rfl)))⟩⟩
      | true =>
        have h1 := List.map_inj_left.mp (List.map_inj_left.mp kept_all v (vs0_of hv ev)) w (vs0_of hw ew)
        have h2 := List.map_inj_left.mp (List.map_inj_left.mp lkept_all v (vs0_of hv ev)) w (vs0_of hw ew)
        have h3 := List.all_eq_true.mp (List.all_eq_true.mp kept_bl v (vs0_of hv ev)) w (vs0_of hw ew)
        cases hk : kept0 v w with
        | bl b => exact ⟨b, fun h => ⟨(congrFun h1 h).trans (by rw [hk]), (congrFun h2 h).trans (by rw [hk])⟩⟩
        | _ => rw [hk] at h3; exact absurd (show false = true from h3) (by decide)
end K01
end
section
set_option Elab.async false
set_option linter.all false
set_option maxRecDepth 100000
set_option maxHeartbeats 4000000
namespace K01
open PySem PySem.Spec PM PL
def sbBody : Sm := sIf (mTst (mOp (pure2 gNe) (mOp fIx (mVar 0) (mVar 2)) (mOp fIx (mVar 1) (mVar 2)))) (sRet (mVar 3)) (sNext)
def sbG : Gm := gTp 2 (gsCons (gNm 2) (gsCons (gNm 3) (gsNil)))
theorem forL_nx {g : Gm} {b : Sm} {d : PV} {ds : List PV} {e e1 e2 : En} {h h2 : Hm} {r : Fl} (hg : g d e = some e1) (hb : b e1 h = .nx e2 h2) (hr : forL g b ds e2 h2 = r) : forL g b (d :: ds) e h = r := by
  unfold forL; rw [hg]; dsimp only; rw [hb]; exact hr
theorem forL_rt {g : Gm} {b : Sm} {d : PV} {ds : List PV} {e e1 : En} {h h2 : Hm} {v : PV} (hg : g d e = some e1) (hb : b e1 h = .rt v h2) : forL g b (d :: ds) e h = .rt v h2 := by
  unfold forL; rw [hg]; dsimp only; rw [hb]
theorem eq3_all : vs.map (fun v => fun h => fIx v (.int 3) h) = vs.map (fun v => fun h => .ok (match v with | .tup [_, _, _, e] => e | _ => .non) h) := by kernel_rfl
end K01
end
section
set_option Elab.async false
set_option linter.all false
set_option maxRecDepth 100000
set_option maxHeartbeats 4000000
namespace K01
open PySem PySem.Spec PM PL
/-- early parts compared -/
def e3 (v : PV) : PV := match v with
  | .tup [_, _, _, e] => e
  | _ => .non
theorem ne3_all : earl.map (fun x => earl.map fun y => gNe x y) = earl.map (fun x => earl.map fun y => some (.bl (!PyData.eqv (toDD x) (toDD y)))) := by kernel_rfl
def sb (a b c a' b' c' : Int) (x y : PV) : PV := if a ≠ a' then .str "great" else if b ≠ b' then .str "small" else if c ≠ c' then .str "fix" else if PyData.eqv (toDD x) (toDD y) = false then .str "early" else .str ""
theorem step_between_ok {a b c a' b' c' : Int} {x y : PV} (hx : x ∈ earl) (hy : y ∈ earl) (h : Hm) : f_step_between [.tup [.int a, .int b, .int c, x], .tup [.int a', .int b', .int c', y]] h = .ok (sb a b c a' b' c' x y) h := by
  have t : ∀ (k : Int) (p q : Int) (s : PV), fIx (.tup [.int a, .int b, .int c, x]) (.int k) h = .ok (.int p) h → fIx (.tup [.int a', .int b', .int c', y]) (.int k) h = .ok (.int q) h →
      mTst (mOp (pure2 gNe) (mOp fIx (mVar 0) (mVar 2)) (mOp fIx (mVar 1) (mVar 2))) [.val (.tup [.int a, .int b, .int c, x]), .val (.tup [.int a', .int b', .int c', y]), .val (.int k), .val s] h = .ok (!decide (p = q)) h :=
    fun k p q s h1 h2 => tst_ (op2_ (op_ rfl rfl h1) (op_ rfl rfl h2) (gNe_int _ _))
  have n3 := List.map_inj_left.mp (List.map_inj_left.mp ne3_all x hx) y hy
  have src : mEnum (mSl (mC c_KINDS_OF_STEPS) (mNoPart) (mPart (mC (.int 3)))) (startP 4 [.tup [.int a, .int b, .int c, x], .tup [.int a', .int b', .int c', y]]) h = .ok (.row [.tup [.int 0, .str "great"], .tup [.int 1, .str "small"], .tup [.int 2, .str "fix"]]) h := rfl
  have go : ∀ {r : Fl}, forL sbG sbBody [.tup [.int 0, .str "great"], .tup [.int 1, .str "small"], .tup [.int 2, .str "fix"]] (startP 4 [.tup [.int a, .int b, .int c, x], .tup [.int a', .int b', .int c', y]]) h = r → sFor (mEnum (mSl (mC c_KINDS_OF_STEPS) (mNoPart) (mPart (mC (.int 3))))) sbG sbBody (startP 4 [.tup [.int a, .int b, .int c, x], .tup [.int a', .int b', .int c', y]]) h = r := fun {r} q => by
    unfold sFor bindS
    rw [src]
    exact q
  have t0 := t 0 a a' (.str "great") rfl rfl
  have t1 := t 1 b b' (.str "small") rfl rfl
  have t2 := t 2 c c' (.str "fix") rfl rfl
  unfold sb
  by_cases ha : a = a'
  · rw [if_neg (by simp [ha])]
    rw [show (!decide (a = a')) = false by simp [ha]] at t0
    by_cases hb : b = b'
    · rw [if_neg (by simp [hb])]
      rw [show (!decide (b = b')) = false by simp [hb]] at t1
      by_cases hc : c = c'
      · rw [if_neg (by simp [hc])]
        rw [show (!decide (c = c')) = false by simp [hc]] at t2
        refine body_rt rfl (seq_ (go (forL_nx rfl (sif_f t0 rfl) (forL_nx rfl (sif_f t1 rfl) (forL_nx rfl (sif_f t2 rfl) rfl)))) (sret_ ?_))
        have tt : mTst (mOp (pure2 gNe) (mOp fIx (mVar 0) (mC (.int 3))) (mOp fIx (mVar 1) (mC (.int 3)))) [.val (.tup [.int a, .int b, .int c, x]), .val (.tup [.int a', .int b', .int c', y]), .val (.int 2), .val (.str "fix")] h = .ok (!PyData.eqv (toDD x) (toDD y)) h := tst_ (op2_ (op_ rfl rfl rfl) (op_ rfl rfl rfl) n3)
        cases q : PyData.eqv (toDD x) (toDD y) with
        | true =>
          rw [q] at tt
          exact if_f tt rfl
        | false =>
          rw [q] at tt
          exact if_t tt rfl
      · rw [if_pos hc]
        rw [show (!decide (c = c')) = true by simp [hc]] at t2
        exact body_rt rfl (seq_rt (go (forL_nx rfl (sif_f t0 rfl) (forL_nx rfl (sif_f t1 rfl) (forL_rt rfl (sif_t t2 rfl))))))
    · rw [if_pos hb]
      rw [show (!decide (b = b')) = true by simp [hb]] at t1
      exact body_rt rfl (seq_rt (go (forL_nx rfl (sif_f t0 rfl) (forL_rt rfl (sif_t t1 rfl)))))
  · rw [if_pos ha]
    rw [show (!decide (a = a')) = true by simp [ha]] at t0
    exact body_rt rfl (seq_rt (go (forL_rt rfl (sif_t t0 rfl))))
end K01
end
section
set_option Elab.async false
set_option linter.all false
set_option maxRecDepth 100000
set_option maxHeartbeats 0
namespace K01
open PySem PySem.Spec PM PL
def kinds : List PV := [.str "great", .str "small", .str "fix", .str "early"]
/-- one step, in plain words -/
def stp : PV → PV → PV
  | .str k, .tup [.int a, .int b, .int c, .tup e] =>
    if k = "great" then (if e.isEmpty = false ∧ b = 0 ∧ c = 0 then .tup [.int a, .int 0, .int 0, .tup []] else .tup [.int (a + 1), .int 0, .int 0, .tup []])
    else if k = "small" then (if e.isEmpty = false ∧ c = 0 then .tup [.int a, .int b, .int 0, .tup []] else .tup [.int a, .int (b + 1), .int 0, .tup []])
    else if k = "fix" then (if e.isEmpty = false then .tup [.int a, .int b, .int c, .tup []] else .tup [.int a, .int b, .int (c + 1), .tup []])
    else match e.reverse with
      | [] => .tup [.int a, .int b, .int (c + 1), .tup [.int 0]]
      | .int i :: r => .tup [.int a, .int b, .int c, .tup (r.reverse ++ [.int (i + 1)])]
      | _ => .tup [.int a, .int b, .int c, .tup (e ++ [.int 0])]
  | _, _ => .non
def chain (k : PV) : Nat → PV → PV
  | 0, v => v
  | n + 1, v => stp k (chain k n v)
theorem step_all : vs.map (fun v => kinds.map fun k => (List.range 9).map fun n => fun h => f_stepped [chain k n v, k] h) = vs.map (fun v => kinds.map fun k => (List.range 9).map fun n => fun h => .ok (chain k (n + 1) v) h) := by kernel_rfl
end K01
end
section
set_option Elab.async false
set_option linter.all false
set_option maxRecDepth 100000
set_option maxHeartbeats 0
namespace K01
open PySem PySem.Spec PM PL
/-- the head of a turn over the kinds -/
theorem kind_all : vs.map (fun v => kinds.map fun k => fun (s0 s1 s2 s4 s5 s6 s7 s8 s10 : Slot) (r : En) (h : Hm) => (sSeq S_law_0_b_8_b_0 (sSeq S_law_0_b_8_b_1 S_law_0_b_8_b_2)) (s0 :: s1 :: s2 :: .val v :: s4 :: s5 :: s6 :: s7 :: s8 :: .val k :: s10 :: r) h) =
    vs.map (fun v => kinds.map fun k => fun (s0 s1 s2 s4 s5 s6 s7 s8 s10 : Slot) (r : En) (h : Hm) => Fl.nx (s0 :: s1 :: s2 :: .val v :: s4 :: s5 :: s6 :: s7 :: s8 :: .val k :: .val (stp k v) :: r) h) := by kernel_rfl
end K01
end
section
set_option Elab.async false
set_option linter.all false
set_option maxRecDepth 100000
set_option maxHeartbeats 0
namespace K01
open PySem PySem.Spec PM PL
def opG : PV := .lst ((rngRow 0 1 5).map fun k => .tup [k, .int 0, .int 0, .tup []])
def opS (v : PV) : PV := .lst ((rngRow 0 1 5).map fun k => .tup [.int (parts3 v).1, k, .int 0, .tup []])
def opF (v : PV) : PV := .lst ((rngRow 0 1 6).map fun k => .tup [.int (parts3 v).1, .int (parts3 v).2.1, k, .tup []])
/-- the steps are the least that are greater -/
theorem opt_all : vs.map (fun v => fun (s0 s1 s2 s4 s6 s7 s8 s9 s10 s11 s12 s13 s14 s15 s16 s17 s18 s19 s20 s21 s22 s23 s24 s25 : Slot) (h : Hm) => (sSeq S_law_0_b_9 (sSeq S_law_0_b_10 (sSeq S_law_0_b_11 S_law_0_b_12))) [s0, s1, s2, .val v, s4, .val (key v), s6, s7, s8, s9, s10, s11, s12, s13, s14, s15, s16, s17, s18, s19, s20, s21, s22, s23, s24, s25] h) =
    vs.map (fun v => fun (s0 s1 s2 s4 s6 s7 s8 s9 s10 s11 s12 s13 s14 s15 s16 s17 s18 s19 s20 s21 s22 s23 s24 s25 : Slot) (h : Hm) => Fl.nx [s0, s1, s2, .val v, s4, .val (key v), s6, s7, s8, .val (.str "fix"), s10, s11, s12, s13, s14, .val opG, .val (opS v), .val (opF v), .val (opF v), s19, s20, s21, s22, s23, s24, s25] h) := by kernel_rfl
end K01
end
section
set_option Elab.async false
set_option linter.all false
set_option maxRecDepth 100000
set_option maxHeartbeats 4000000
namespace K01
open PySem PySem.Spec PM PL
/-! ### groups of versions in the heap -/
theorem toDh_all : vs.map (fun v => fun (h : Hm) (n : Nat) => toDh h (n + 12) v) = vs.map (fun v => fun (h : Hm) (n : Nat) => some (vD v)) := by kernel_rfl
theorem toDh_v {v : PV} (hv : v ∈ vs) (h : Hm) {n : Nat} (hn : 12 ≤ n) : toDh h n v = some (vD v) := by
  obtain ⟨m, rfl⟩ : ∃ m, n = m + 12 := ⟨n - 12, by omega⟩
  exact congrFun (congrFun (List.map_inj_left.mp toDh_all v hv) h) m
theorem toDhs_v (h : Hm) : ∀ {xs : List PV} {n : Nat}, (∀ v ∈ xs, v ∈ vs) → xs.length + 13 ≤ n → toDhs h n xs = some (xs.map vD)
  | [], n, _, hn => by
    obtain ⟨m, rfl⟩ : ∃ m, n = m + 1 := ⟨n - 1, by simp at hn; omega⟩
    simp [toDhs]
  | v :: xs, n, hx, hn => by
    obtain ⟨m, rfl⟩ : ∃ m, n = m + 1 := ⟨n - 1, by simp at hn; omega⟩
    simp at hn
    have h1 := toDh_v (hx v List.mem_cons_self) h (n := m) (by omega)
    have h2 := toDhs_v h (xs := xs) (n := m) (fun w hw => hx w (List.mem_cons_of_mem _ hw)) (by omega)
    simp only [toDhs, h1, h2, List.map_cons]
/-- groups: where they lie, what they hold -/
structure GI (h : Hm) (gs : List (Nat × List PV)) : Prop where
  at0 : h[0]? = some (.lst (gs.map fun g => .ref g.1))
  at_ : ∀ g ∈ gs, h[g.1]? = some (.lst g.2)
  nz : ∀ g ∈ gs, 0 < g.1
  nd : (gs.map (·.1)).Nodup
theorem GI.ext {h : Hm} {gs : List (Nat × List PV)} (g : GI h gs) (n : Hm) : GI (h ++ n) gs := by
  have up : ∀ (i : Nat) o, h[i]? = some o → (h ++ n)[i]? = some o := fun i o e => by
    rw [List.getElem?_append_left (List.getElem?_eq_some_iff.mp e).1]; exact e
  exact ⟨up _ _ g.at0, fun x hx => up _ _ (g.at_ x hx), g.nz, g.nd⟩
theorem GI.dat {h : Hm} {gs : List (Nat × List PV)} : ∀ {rs : List (Nat × List PV)} {n : Nat}, (∀ g ∈ rs, h[g.1]? = some (.lst g.2) ∧ (∀ v ∈ g.2, v ∈ vs) ∧ g.2.length ≤ 8) → rs.length + 24 ≤ n →
    toDhs h n (rs.map fun g => .ref g.1) = some (rs.map fun g => .list (g.2.map vD))
  | [], n, _, hn => by
    obtain ⟨m, rfl⟩ : ∃ m, n = m + 1 := ⟨n - 1, by simp at hn; omega⟩
    simp [toDhs]
  | g :: rs, n, hr, hn => by
    obtain ⟨m, rfl⟩ : ∃ m, n = m + 2 := ⟨n - 2, by simp at hn; omega⟩
    simp at hn
    obtain ⟨e1, e2, e3⟩ := hr g List.mem_cons_self
    have h1 : toDh h (m + 1) (.ref g.1) = some (.list (g.2.map vD)) := by
      have := toDhs_v h (xs := g.2) (n := m) e2 (by omega)
      simp only [toDh, e1, this]
    have h2 := GI.dat (h := h) (gs := gs) (rs := rs) (n := m + 1) (fun x hx => hr x (List.mem_cons_of_mem _ hx)) (by omega)
    simp only [List.map_cons, toDhs, h1, h2]
/-- what the groups hold is drawn, and not much -/
structure GV (gs : List (Nat × List PV)) : Prop where
  mem : ∀ g ∈ gs, ∀ v ∈ g.2, v ∈ vs
  ne : ∀ g ∈ gs, g.2 ≠ []
  few : ∀ g ∈ gs, g.2.length ≤ 8
  few2 : gs.length ≤ 8
theorem vD_can : (vs.all fun v => (vD v).canLay0) = true := by kernel_rfl
theorem shaped_vs {xs : List PV} (h : ∀ v ∈ xs, v ∈ vs) : PyData.canLay0 (.list (xs.map vD)) = true ∧ (PyData.list (xs.map vD)).depth ≤ 61 := by
  have := shaped_list (xs := xs.map vD) fun x hx => by
    obtain ⟨v, hv, rfl⟩ := List.mem_map.mp hx
    exact ⟨List.all_eq_true.mp vD_can v (h v hv), of_decide_eq_true (List.all_eq_true.mp vD_deep v (h v hv))⟩
  unfold SeqAt.shaped at this
  rw [Bool.and_eq_true] at this
  refine ⟨this.1, ?_⟩
  have h1 : PyData.depthAll (xs.map vD) ≤ 60 := by
    clear this
    induction xs with
    | nil => simp [PyData.depthAll]
    | cons x xs ih =>
      have a := of_decide_eq_true (List.all_eq_true.mp vD_deep x (h x List.mem_cons_self))
      have b := ih fun y hy => h y (List.mem_cons_of_mem _ hy)
      simp only [List.map_cons, PyData.depthAll]
      omega
  simp only [PyData.depth]
  omega
theorem shaped_gs {gs : List (Nat × List PV)} (g : GV gs) : SeqAt.shaped (.list (gs.map fun g => .list (g.2.map vD))) = true := by
  have h1 : PyData.canLayAll0 (gs.map fun g => .list (g.2.map vD)) = true ∧ PyData.depthAll (gs.map fun g => .list (g.2.map vD)) ≤ 61 := by
    have hm := g.mem
    clear g
    induction gs with
    | nil => exact ⟨rfl, by simp [PyData.depthAll]⟩
    | cons x xs ih =>
      obtain ⟨a, b⟩ := shaped_vs (hm x List.mem_cons_self)
      obtain ⟨c, d⟩ := ih fun y hy => hm y (List.mem_cons_of_mem _ hy)
      refine ⟨by simp [PyData.canLayAll0, a, c], ?_⟩
      simp only [List.map_cons, PyData.depthAll]
      omega
  simp only [SeqAt.shaped, PyData.canLay0, h1.1, PyData.depth, Bool.true_and]
  refine decide_eq_true ?_
  omega
/-- found != [] -/
theorem ne_new {h : Hm} {gs : List (Nat × List PV)} (g : GI h gs) (v : GV gs) : fNeH (.ref 0) (.ref h.length) (h ++ [.lst []]) = .ok (.bl (!gs.isEmpty)) (h ++ [.lst []]) := by
  have g' := g.ext [.lst []]
  have h1 : toDh (h ++ [.lst []]) 40 (.ref 0) = some (.list (gs.map fun g => .list (g.2.map vD))) := by
    have := GI.dat (h := h ++ [.lst []]) (gs := gs) (rs := gs) (n := 39) (fun x hx => ⟨g'.at_ x hx, v.mem x hx, v.few x hx⟩) (by have := v.few2; omega)
    simp only [toDh, g'.at0, this]
  have h2 : toDh (h ++ [.lst []]) 40 (.ref h.length) = some (.list []) := by
    have : (h ++ [.lst []] : Hm)[h.length]? = some (.lst []) := by simp
    simp only [toDh, this, toDhs]
  unfold fNeH fEqB
  rw [h1, h2]
  dsimp only
  rw [if_pos ⟨shaped_gs v, rfl⟩]
  cases gs <;> simp [PyData.eqv, PyData.eqvAll]
end K01
end
section
set_option Elab.async false
set_option linter.all false
set_option maxRecDepth 100000
set_option maxHeartbeats 4000000
namespace K01
open PySem PySem.Spec PM PL
theorem meth_ {T : String} {f : PV → List PV → Hm → Res PV} {o : M PV} {ms : M (List PV)} {e : En} {h h1 h2 : Hm} {x : PV} {xs : List PV} {r : Res PV} (ho : o e h = .ok x h1) (ht : tyP T h1 x = true) (hm : ms e h1 = .ok xs h2) (hf : f x xs h2 = r) : mMeth T f o ms e h = r := by
  unfold mMeth; rw [ho]; show (if tyP T h1 x = true then _ else _) = _; rw [if_pos ht, hm]; exact hf
def kp (v w : PV) : Bool := match f_is_kept [v, w] [] with
  | .ok (.bl b) _ => b
  | _ => false
theorem kp_ok {v w : PV} (hv : v ∈ vs) (hw : w ∈ vs) (h : Hm) : f_is_kept [v, w] h = .ok (.bl (kp v w)) h ∧ f__law_kept [v, w] h = .ok (.bl (kp v w)) h := by
  obtain ⟨b, hb⟩ := kept_ok hv hw
  have : kp v w = b := by unfold kp; rw [(hb []).1]
  rw [this]; exact hb h
def hd (g : List PV) : PV := g.headD .non
def addG : List (List PV) → PV → List (List PV)
  | [], v => [[v]]
  | [g], v => if kp (hd g) v = true then [g ++ [v]] else [g, [v]]
  | g :: g2 :: gs, v => g :: addG (g2 :: gs) v
theorem addG_snoc : ∀ (gs : List (List PV)) (g : List PV) (v : PV), addG (gs ++ [g]) v = gs ++ (if kp (hd g) v = true then [g ++ [v]] else [g, [v]])
  | [], g, v => rfl
  | [a], g, v => rfl
  | a :: b :: gs, g, v => by
    show a :: addG (b :: gs ++ [g]) v = _
    rw [addG_snoc (b :: gs) g v]; rfl
theorem set_ne {h : Hm} {i j : Nat} {o x : MO} (n : i ≠ j) (e : h[j]? = some o) : (h.set i x)[j]? = some o := by
  rw [List.getElem?_set_ne n]; exact e
theorem lt_at {h : Hm} {i : Nat} {o : MO} (e : h[i]? = some o) : i < h.length := (List.getElem?_eq_some_iff.mp e).1
theorem GI.new {h : Hm} {gs : List (Nat × List PV)} (g : GI h gs) (v : PV) : GI ((h ++ [MO.lst [v]]).set 0 (MO.lst ((gs.map fun g => PV.ref g.1) ++ [PV.ref h.length]))) (gs ++ [(h.length, [v])]) := by
  have h0 := lt_at g.at0
  have g' := g.ext [.lst [v]]
  refine ⟨?_, fun x hx => ?_, fun x hx => ?_, ?_⟩
  · rw [set_at g'.at0]; simp
  · rcases List.mem_append.mp hx with hx | hx
    · exact set_ne (by have := g.nz x hx; omega) (g'.at_ x hx)
    · simp at hx; subst hx
      exact set_ne (by dsimp; omega) (by simp)
  · rcases List.mem_append.mp hx with hx | hx
    · exact g.nz x hx
    · simp at hx; subst hx; exact h0
  · rw [List.map_append, List.nodup_append]
    refine ⟨g.nd, by simp, fun a ha b hb => ?_⟩
    simp at hb; subst hb
    obtain ⟨x, hx, rfl⟩ := List.mem_map.mp ha
    have := lt_at (g.at_ x hx)
    omega
theorem GI.push {h : Hm} {gs : List (Nat × List PV)} {r : Nat} {xs : List PV} (g : GI h (gs ++ [(r, xs)])) (v : PV) : GI (h.set r (MO.lst (xs ++ [v]))) (gs ++ [(r, xs ++ [v])]) := by
  have hr := g.nz (r, xs) (by simp)
  have nd := g.nd
  rw [List.map_append, List.nodup_append] at nd
  refine ⟨?_, fun x hx => ?_, fun x hx => ?_, ?_⟩
  · rw [set_ne (by dsimp at hr; omega) g.at0]; simp
  · rcases List.mem_append.mp hx with hx | hx
    · exact set_ne (fun z => nd.2.2 x.1 (List.mem_map.mpr ⟨x, hx, rfl⟩) r (by simp) z.symm) (g.at_ x (List.mem_append_left _ hx))
    · simp at hx; subst hx
      exact set_at (g.at_ (r, xs) (by simp))
  · rcases List.mem_append.mp hx with hx | hx
    · exact g.nz x (List.mem_append_left _ hx)
    · simp at hx; subst hx; exact hr
  · rw [List.map_append, List.nodup_append]; exact nd
theorem ix_m1 {xs : List PV} {y : PV} : L2.atI (xs ++ [y]) (-1) = some y := by
  have : L2.ixN (xs ++ [y]).length (-1) = some xs.length := by
    unfold L2.ixN
    simp only [List.length_append, List.length_singleton]
    split
    · omega
    · split
      · congr 1; omega
      · omega
  unfold L2.atI
  rw [this]
  simp
theorem ix_0 {xs : List PV} {y : PV} : L2.atI (y :: xs) 0 = some y := by
  unfold L2.atI L2.ixN
  simp
theorem snoc_of {α : Type} : ∀ (l : List α), l = [] ∨ ∃ a b, l = a ++ [b]
  | [] => .inl rfl
  | x :: l => .inr (by
    rcases snoc_of l with rfl | ⟨a, b, rfl⟩
    · exact ⟨[], x, rfl⟩
    · exact ⟨x :: a, b, rfl⟩)
theorem turn_ok {h : Hm} {gs : List (Nat × List PV)} {v : PV} {s0 s3 : Slot} (g : GI h gs) (gv : GV gs) (hv : v ∈ vs) : ∃ h' gs', S_groups_kept_1_b_0 [s0, .val (.ref 0), .val v, s3] h = .nx [s0, .val (.ref 0), .val v, s3] h' ∧ GI h' gs' ∧ gs'.map (·.2) = addG (gs.map (·.2)) v := by
  have n1 : mTst (mOp (fNeH) (mVar 1) (mNew (mNil))) [s0, .val (.ref 0), .val v, s3] h = .ok (!gs.isEmpty) (h ++ [.lst []]) := tst_ (op_ rfl rfl (ne_new g gv))
  have g1 := g.ext [.lst []]
  have els : ∀ h1, GI h1 gs → S_groups_kept_1_b_0_e_0 [s0, .val (.ref 0), .val v, s3] h1 = .nx [s0, .val (.ref 0), .val v, s3] ((h1 ++ [MO.lst [v]]).set 0 (MO.lst ((gs.map fun g => PV.ref g.1) ++ [PV.ref h1.length]))) := fun h1 gi => by
    have g2 := gi.ext [.lst [v]]
    refine sdrop_ (x := .non) (meth_ (h2 := h1 ++ [.lst [v]]) (xs := [.ref h1.length]) rfl (by simp only [tyP, gi.at0]; rfl) rfl ?_)
    simp only [mtApp, g2.at0]
    rw [if_pos (by rw [List.length_map]; have := gv.few2; omega)]
  rcases snoc_of gs with rfl | ⟨gs, ⟨r, xs⟩, rfl⟩
  · exact ⟨_, _, sif_f (and_f n1) (els _ g1), g1.new v, rfl⟩
  · have at0 := g1.at0
    rw [List.map_append] at at0
    have hxs : (h ++ [MO.lst []])[r]? = some (.lst xs) := g1.at_ (r, xs) (by simp)
    obtain ⟨x, ys, rfl⟩ : ∃ x ys, xs = x :: ys := by
      cases xs with
      | nil => exact absurd rfl (gv.ne (r, []) (by simp))
      | cons x ys => exact ⟨x, ys, rfl⟩
    have hx : x ∈ vs := gv.mem (r, x :: ys) (by simp) x (by simp)
    have i1 : mOp fIx (mVar 1) (mUn gNeg (mC (.int 1))) [s0, .val (.ref 0), .val v, s3] (h ++ [.lst []]) = .ok (.ref r) (h ++ [.lst []]) := op_ rfl rfl (ix_ref at0 ix_m1)
    have t2 : mTst (mCall f_is_kept (mCons (mOp fIx (mOp fIx (mVar 1) (mUn gNeg (mC (.int 1)))) (mC (.int 0))) (mCons (mVar 2) (mNil)))) [s0, .val (.ref 0), .val v, s3] (h ++ [.lst []]) = .ok (kp x v) (h ++ [.lst []]) :=
      tst_ (call_ (cons_ (op_ i1 rfl (ix_ref hxs ix_0)) (cons_ rfl rfl)) (kp_ok hx hv _).1)
    rw [List.map_append]
    show ∃ (h' : Hm) (gs' : List (Nat × List PV)), _ ∧ _ ∧ List.map (fun g => g.2) gs' = addG (gs.map (·.2) ++ [x :: ys]) v
    rw [addG_snoc]
    have n2 : (!(gs ++ [(r, x :: ys)]).isEmpty) = true := by simp
    rw [n2] at n1
    cases q : kp x v with
    | false =>
      rw [q] at t2
      refine ⟨_, _, sif_f (and_t n1 t2) (els _ g1), g1.new v, ?_⟩
      have : kp (hd (x :: ys)) v = false := q
      rw [this]
      simp
    | true =>
      rw [q] at t2
      have : kp (hd (x :: ys)) v = true := q
      rw [this]
      refine ⟨_, _, sif_t (and_t n1 t2) (sdrop_ (x := .non) (meth_ (h2 := h ++ [.lst []]) (xs := [v]) i1 (by simp only [tyP, hxs]; rfl) rfl ?_)), g1.push v, by simp⟩
      simp only [mtApp, hxs]
      rw [if_pos (by have := gv.few (r, x :: ys) (by simp); simp at this ⊢; omega)]
end K01
end
section
set_option Elab.async false
set_option linter.all false
set_option maxRecDepth 100000
set_option maxHeartbeats 4000000
namespace K01
open PySem PySem.Spec PM PL
def groups (gs : List (List PV)) (vs : List PV) : List (List PV) := vs.foldl addG gs
theorem addG_flat : ∀ (gs : List (List PV)) (v : PV), (addG gs v).flatten = gs.flatten ++ [v]
  | [], v => rfl
  | [g], v => by unfold addG; split <;> simp
  | g :: g2 :: gs, v => by
    show (g :: addG (g2 :: gs) v).flatten = _
    rw [List.flatten_cons, addG_flat (g2 :: gs) v]
    simp
theorem groups_flat : ∀ (xs : List PV) (gs : List (List PV)), (groups gs xs).flatten = gs.flatten ++ xs
  | [], gs => by simp [groups]
  | v :: xs, gs => by
    show (groups (addG gs v) xs).flatten = _
    rw [groups_flat xs, addG_flat]; simp
theorem addG_ne {gs : List (List PV)} {v : PV} (h : ∀ g ∈ gs, g ≠ []) : ∀ g ∈ addG gs v, g ≠ [] := by
  rcases snoc_of gs with rfl | ⟨a, b, rfl⟩
  · intro g hg; simp [addG] at hg; subst hg; simp
  · rw [addG_snoc]
    intro g hg
    rcases List.mem_append.mp hg with hg | hg
    · exact h g (List.mem_append_left _ hg)
    · split at hg
      · simp at hg; subst hg; simp
      · simp at hg
        rcases hg with rfl | rfl
        · exact h _ (by simp)
        · simp
theorem flat_len {gs : List (List PV)} (h : ∀ g ∈ gs, g ≠ []) : gs.length ≤ gs.flatten.length := by
  induction gs with
  | nil => simp
  | cons g gs ih =>
    have h1 := ih fun x hx => h x (List.mem_cons_of_mem _ hx)
    have h2 : 0 < g.length := List.length_pos_iff.mpr (h g List.mem_cons_self)
    simp only [List.flatten_cons, List.length_cons, List.length_append]
    omega
theorem mem_flat_len {gs : List (List PV)} {g : List PV} (h : g ∈ gs) : g.length ≤ gs.flatten.length := by
  induction gs with
  | nil => simp at h
  | cons x gs ih =>
    simp only [List.flatten_cons, List.length_append]
    rcases List.mem_cons.mp h with rfl | h
    · omega
    · have := ih h; omega
theorem gv_of {gs : List (Nat × List PV)} (hm : ∀ v ∈ (gs.map (·.2)).flatten, v ∈ vs) (hn : ∀ g ∈ gs.map (·.2), g ≠ []) (hl : (gs.map (·.2)).flatten.length ≤ 8) : GV gs := by
  refine ⟨fun g hg v hv => hm v (List.mem_flatten.mpr ⟨g.2, List.mem_map.mpr ⟨g, hg, rfl⟩, hv⟩), fun g hg => hn g.2 (List.mem_map.mpr ⟨g, hg, rfl⟩), fun g hg => Nat.le_trans (mem_flat_len (List.mem_map.mpr ⟨g, hg, rfl⟩)) hl, ?_⟩
  have := flat_len hn
  rw [List.length_map] at this
  omega
theorem g_loop {s0 s3 : Slot} : ∀ {xs : List PV} {h : Hm} {gs : List (Nat × List PV)} {s2 : Slot}, GI h gs → (∀ v ∈ (gs.map (·.2)).flatten ++ xs, v ∈ vs) → (∀ g ∈ gs.map (·.2), g ≠ []) → ((gs.map (·.2)).flatten ++ xs).length ≤ 8 →
    ∃ s2' h' gs', forL (gNm 2) S_groups_kept_1_b_0 xs [s0, .val (.ref 0), s2, s3] h = .nx [s0, .val (.ref 0), s2', s3] h' ∧ GI h' gs' ∧ gs'.map (·.2) = groups (gs.map (·.2)) xs
  | [], h, gs, s2, gi, _, _, _ => ⟨s2, h, gs, rfl, gi, rfl⟩
  | v :: xs, h, gs, s2, gi, hm, hn, hl => by
    have gv := gv_of (gs := gs) (fun v hv => hm v (List.mem_append_left _ hv)) hn (by rw [List.length_append] at hl; omega)
    obtain ⟨h1, gs1, e1, gi1, m1⟩ := turn_ok (s0 := s0) (s3 := s3) gi gv (hm v (by simp))
    have fl := addG_flat (gs.map (·.2)) v
    obtain ⟨s2', h', gs', e2, gi2, m2⟩ := g_loop (xs := xs) (h := h1) (gs := gs1) (s2 := .val v) gi1 (by rw [m1, fl]; simpa using hm) (by rw [m1]; exact addG_ne hn) (by rw [m1, fl]; simpa using hl)
    exact ⟨s2', h', gs', forL_nx rfl e1 e2, gi2, by rw [m2, m1]; rfl⟩
theorem compS_hp {g : Gm} {mt : M Bool} {me : M PV} {e : En} {h : Hm} {i : Nat} {xs : List PV} {f : PV → PV} (hx : h[i]? = some (.lst xs)) (hg : ∀ d ∈ xs, ∃ e1, g d e = some e1 ∧ mt e1 h = .ok true h ∧ me e1 h = .ok (f d) h) :
    ∀ (n k : Nat), xs.length = k + n → compS g mt me (.hp i) e (n + 1) k h = .ok ((xs.drop k).map f) h
  | 0, k, l => by
    have e1 : xs[k]? = none := List.getElem?_eq_none_iff.mpr (by omega)
    have e2 : xs.drop k = [] := List.drop_eq_nil_of_le (by omega)
    rw [e2]
    simp only [compS, Src.get, hx, e1, List.map_nil]
  | n + 1, k, l => by
    have hk : k < xs.length := by omega
    have e1 : xs[k]? = some xs[k] := List.getElem?_eq_getElem hk
    have ih := compS_hp (e := e) hx hg n (k + 1) (by omega)
    obtain ⟨e2, g1, t1, m1⟩ := hg xs[k] (List.getElem_mem hk)
    rw [List.drop_eq_getElem_cons hk]
    rw [compS]
    simp only [Src.get, hx, e1, g1, t1, m1, ih, bind_ok, if_true, List.map_cons]
theorem noRef_all : (vs.all fun v => noRef v) = true := by kernel_rfl
theorem noRefs_vs : ∀ {xs : List PV}, (∀ v ∈ xs, v ∈ vs) → noRefs xs = true
  | [], _ => rfl
  | v :: xs, h => by
    simp only [noRefs, List.all_eq_true.mp noRef_all v (h v List.mem_cons_self), noRefs_vs fun w hw => h w (List.mem_cons_of_mem _ hw), Bool.and_self]
theorem noRefs_gs : ∀ {gs : List (List PV)}, (∀ v ∈ gs.flatten, v ∈ vs) → noRefs (gs.map .tup) = true
  | [], _ => rfl
  | g :: gs, h => by
    simp only [List.flatten_cons] at h
    simp only [List.map_cons, noRefs, noRef, noRefs_vs fun v hv => h v (List.mem_append_left _ hv), noRefs_gs fun v hv => h v (List.mem_append_right _ hv), Bool.and_self]
/-- the versions in order -/
def sov (rows : List PV) : List PV := (so rows).map (·.2)
theorem sov_mem {rows : List PV} (hr : ∀ v ∈ rows, v ∈ vs) : ∀ v ∈ sov rows, v ∈ vs := fun v hv => by
  obtain ⟨p, hp, rfl⟩ := List.mem_map.mp hv
  exact (idx_mem hr (isortA_mem hp)).1
theorem sov_len (rows : List PV) : (sov rows).length = rows.length := by unfold sov so; rw [List.length_map, isortA_len, idx_len]
def grp (rows : List PV) : List (List PV) := groups [] (sov rows)
theorem groups_ok {rows : List PV} {x : PV} (hx : x = .lst rows ∨ x = .tup rows) (hr : ∀ v ∈ rows, v ∈ vs) (hl : rows.length ≤ 8) (h : Hm) : fZ f_groups_kept [x] h = .ok (.tup ((grp rows).map .tup)) h := by
  obtain ⟨s2', h', gs', e2, gi2, m2⟩ := g_loop (s0 := .val x) (s3 := .no) (xs := sov rows) (h := [.lst []]) (gs := []) (s2 := .no) ⟨rfl, by simp, by simp, by simp⟩ (by simpa using sov_mem hr) (by simp) (by simpa using (by rw [sov_len]; exact hl))
  have gm : (gs'.map (·.2)) = grp rows := m2
  have s1 : S_groups_kept_1 [.val x, .val (.ref 0), .no, .no] [.lst []] = .nx [.val x, .val (.ref 0), s2', .no] h' := by
    unfold S_groups_kept_1 sFor bindS
    rw [src_ (call_ (cons_ rfl rfl) (in_order_ok hx hr (by omega) _)) rfl]
    exact e2
  have s2 : S_groups_kept_2 [.val x, .val (.ref 0), s2', .no] h' = .rt (.tup ((grp rows).map .tup)) h' := by
    refine sret_ ?_
    have hs : mSrc (mVar 1) [.val x, .val (.ref 0), s2', .no] h' = .ok (.hp 0) h' := by
      unfold mSrc
      show (match srcOf h' (.ref 0) with | some s => Res.ok s h' | none => .stuck) = _
      simp only [srcOf, gi2.at0]
    unfold mGenL
    rw [hs]
    have hlen : gs'.length ≤ 8 := by
      have h1 := flat_len (gs := grp rows) (by
        have : ∀ (xs : List PV) (gs : List (List PV)), (∀ g ∈ gs, g ≠ []) → ∀ g ∈ groups gs xs, g ≠ [] := fun xs => by
          induction xs with
          | nil => intro gs h; exact h
          | cons x xs ih => intro gs h; exact ih _ (addG_ne h)
        exact this _ [] (by simp))
      have h2 : (grp rows).flatten.length = rows.length := by unfold grp; rw [groups_flat]; simp [sov_len]
      have h3 : gs'.length = (grp rows).length := by rw [← gm, List.length_map]
      omega
    show (compR _ _ _ _ (.hp 0) h').bind _ = _
    have ln : (Src.hp 0).len h' = gs'.length := by simp only [Src.len, gi2.at0, List.length_map]
    unfold compR
    dsimp only
    rw [ln, if_pos (by omega), compS_hp (f := fun d => match d with | .ref i => (match h'[i]? with | some (.lst xs) => .tup xs | _ => .non) | _ => .non) gi2.at0 (fun d hd => ?_) gs'.length 0 (by simp)]
    · show Res.ok (PV.tup _) h' = _
      rw [← gm, List.drop_zero, List.map_map, List.map_map]
      congr 2
      refine List.map_congr_left fun g hg => ?_
      simp only [Function.comp, gi2.at_ g hg]
    · obtain ⟨g, hg, rfl⟩ := List.mem_map.mp hd
      refine ⟨_, rfl, chk_ok rfl, chk_ok ?_⟩
      simp only [gi2.at_ g hg]
      refine call_ (cons_ rfl rfl) ?_
      simp only [fTuple, PM.listOf, gi2.at_ g hg]
  have run : f_groups_kept [x] [] = .ok (.tup ((grp rows).map .tup)) h' := body_rt rfl (seq_ (h1 := [.lst []]) (e1 := [.val x, .val (.ref 0), .no, .no]) rfl (seq_ s1 s2))
  have nx : noRefs [x] = true := by
    have := noRefs_vs hr
    rcases hx with rfl | rfl <;> simp [noRefs, noRef, this]
  unfold fZ
  rw [if_pos nx, run]
  dsimp only
  rw [if_pos]
  simp only [noRef]
  refine noRefs_gs fun v hv => sov_mem hr v ?_
  have : (grp rows).flatten = sov rows := by unfold grp; rw [groups_flat]; rfl
  rw [← this]; exact hv
end K01
end
section
set_option Elab.async false
set_option linter.all false
set_option maxRecDepth 100000
set_option maxHeartbeats 0
namespace K01
open PySem PySem.Spec PM PL
/-! ### chains of steps -/
/-- the n-th step's version, as data -/
def cD (k v : PV) (n : Nat) : PyData := toDD (chain k (n + 1) v)
theorem cD_all : vs.map (fun v => kinds.map fun k => (List.range 9).map fun n => toD (chain k (n + 1) v)) = vs.map (fun v => kinds.map fun k => (List.range 9).map fun n => some (cD k v n)) := by kernel_rfl
theorem cD_shaped : (vs.all fun v => kinds.all fun k => (List.range 9).all fun n => SeqAt.shaped (cD k v n) && isD (cD k v n)) = true := by kernel_rfl
theorem vD_isD : (vs.all fun v => isD (vD v)) = true := by kernel_rfl
theorem cD_apart : (vs.all fun v => kinds.all fun k => (List.range 9).all fun n => (List.range n).all fun m => !PyData.eqv (cD k v m) (cD k v n)) = true := by kernel_rfl
theorem noRef_chain : (vs.all fun v => kinds.all fun k => (List.range 9).all fun n => noRef (chain k (n + 1) v)) = true := by kernel_rfl
variable {v k : PV} {rows : List PV}
theorem step_at (hv : v ∈ vs) (hk : k ∈ kinds) {n : Nat} (hn : n < 9) (h : Hm) : f_stepped [chain k n v, k] h = .ok (chain k (n + 1) v) h :=
  congrFun (List.map_inj_left.mp (List.map_inj_left.mp (List.map_inj_left.mp step_all v hv) k hk) n (List.mem_range.mpr hn)) h
theorem cD_at (hv : v ∈ vs) (hk : k ∈ kinds) {n : Nat} (hn : n < 9) : toD (chain k (n + 1) v) = some (cD k v n) :=
  List.map_inj_left.mp (List.map_inj_left.mp (List.map_inj_left.mp cD_all v hv) k hk) n (List.mem_range.mpr hn)
theorem cD_sh (hv : v ∈ vs) (hk : k ∈ kinds) {n : Nat} (hn : n < 9) : SeqAt.shaped (cD k v n) = true ∧ isD (cD k v n) = true :=
  Bool.and_eq_true_iff.mp (List.all_eq_true.mp (List.all_eq_true.mp (List.all_eq_true.mp cD_shaped v hv) k hk) n (List.mem_range.mpr hn))
theorem cD_ne (hv : v ∈ vs) (hk : k ∈ kinds) {n m : Nat} (hn : n < 9) (hm : m < n) : cD k v m ≠ cD k v n := fun e => by
  have := List.all_eq_true.mp (List.all_eq_true.mp (List.all_eq_true.mp (List.all_eq_true.mp cD_apart v hv) k hk) n (List.mem_range.mpr hn)) m (List.mem_range.mpr hm)
  rw [e, eqv_self _ (cD_sh hv hk hn).2] at this
  exact absurd this (by decide)
/-- whether a step's version is among rows -/
def inR (rows : List PV) (k v : PV) (n : Nat) : Bool := (rows.map vD).any fun z => PyData.eqv z (cD k v n)
theorem toDs_rows (hr : ∀ v ∈ rows, v ∈ vs) : toDs rows = some (rows.map vD) := by
  have := toDs_map (f := fun v => v) (g := vD) (l := rows) fun v hv => vD_at (hr v hv)
  simpa using this
theorem shaped_rows (hr : ∀ v ∈ rows, v ∈ vs) : SeqAt.shaped (.list (rows.map vD)) = true := by
  refine shaped_list fun x hx => ?_
  obtain ⟨v, hv, rfl⟩ := List.mem_map.mp hx
  exact ⟨List.all_eq_true.mp vD_can v (hr v hv), of_decide_eq_true (List.all_eq_true.mp vD_deep v (hr v hv))⟩
theorem in_ok (hv : v ∈ vs) (hk : k ∈ kinds) (hr : ∀ v ∈ rows, v ∈ vs) {n : Nat} (hn : n < 9) : gInv (chain k (n + 1) v) (.lst rows) = some (inR rows k v n) := by
  unfold gInv
  simp only [cD_at hv hk hn, toD, toDs_rows hr]
  rw [if_pos ⟨(cD_sh hv hk hn).1, shaped_rows hr⟩]
  rfl
theorem gin_ok (hv : v ∈ vs) (hk : k ∈ kinds) (hr : ∀ v ∈ rows, v ∈ vs) {n : Nat} (hn : n < 9) : gIn (chain k (n + 1) v) (.lst rows) = some (.bl (inR rows k v n)) := by
  unfold gIn gDD; rw [in_ok hv hk hr hn]; rfl
theorem gnotin_ok (hv : v ∈ vs) (hk : k ∈ kinds) (hr : ∀ v ∈ rows, v ∈ vs) {n : Nat} (hn : n < 9) : gNotIn (chain k (n + 1) v) (.lst rows) = some (.bl (!inR rows k v n)) := by
  unfold gNotIn gDD; dsimp only; rw [in_ok hv hk hr hn]; rfl
/-- some step is not among the rows -/
theorem some_out (hv : v ∈ vs) (hk : k ∈ kinds) (hr : ∀ v ∈ rows, v ∈ vs) (hl : rows.length ≤ 8) : ∃ n, n ≤ rows.length ∧ inR rows k v n = false := by
  classical
  have nd : ((List.range (rows.length + 1)).map (cD k v)).Nodup := by
    rw [List.nodup_iff_pairwise_ne, List.pairwise_map]
    refine List.Pairwise.imp_of_mem ?_ List.pairwise_lt_range
    intro a b _ hb hab
    rw [List.mem_range] at hb
    exact cD_ne hv hk (by omega) hab
  obtain ⟨d, hd, nd'⟩ := pigeon (rs := rows.map vD) nd (by simp)
  obtain ⟨n, hn, rfl⟩ := List.mem_map.mp hd
  rw [List.mem_range] at hn
  refine ⟨n, by omega, ?_⟩
  cases q : inR rows k v n with
  | false => rfl
  | true =>
    obtain ⟨x, hx, e⟩ := List.any_eq_true.mp q
    obtain ⟨w, hw, rfl⟩ := List.mem_map.mp hx
    have := eqv_eq _ _ (List.all_eq_true.mp vD_isD w (hr w hw)) (cD_sh hv hk (by omega)).2 e
    exact absurd (this ▸ hx) nd'
/-- the first step that is not among the rows -/
theorem first_out (hv : v ∈ vs) (hk : k ∈ kinds) (hr : ∀ v ∈ rows, v ∈ vs) (hl : rows.length ≤ 8) : ∃ n, n ≤ rows.length ∧ inR rows k v n = false ∧ ∀ m, m < n → inR rows k v m = true := by
  obtain ⟨n, hn, q⟩ := some_out hv hk hr hl
  clear hl
  induction n using Nat.strongRecOn with
  | ind n ih =>
    by_cases h : ∃ m, m < n ∧ inR rows k v m = false
    · obtain ⟨m, hm, e⟩ := h
      exact ih m hm (by omega) e
    · refine ⟨n, hn, q, fun m hm => ?_⟩
      cases e : inR rows k v m with
      | true => rfl
      | false => exact absurd ⟨m, hm, e⟩ h
theorem while_out (hv : v ∈ vs) (hk : k ∈ kinds) (hr : ∀ v ∈ rows, v ∈ vs) {n : Nat} (hn : n < 9) (q : inR rows k v n = false) {h : Hm} : ∀ (d j : Nat) (fuel : Nat), j + d = n → d < fuel → (∀ m, m < n → inR rows k v m = true) →
    sWhile (mTst (mOp (pure2 gIn) (mVar 3) (mVar 0))) (S_least_step_1_w_0) fuel [.val (.lst rows), .val v, .val k, .val (chain k (j + 1) v)] h = .nx [.val (.lst rows), .val v, .val k, .val (chain k (n + 1) v)] h
  | 0, j, f + 1, e, _, _ => by
    have : j = n := by omega
    subst this
    have t : mTst (mOp (pure2 gIn) (mVar 3) (mVar 0)) [.val (.lst rows), .val v, .val k, .val (chain k (j + 1) v)] h = .ok false h := tst_ ((op2_ rfl rfl (gin_ok hv hk hr hn)).trans (by rw [q]))
    unfold sWhile
    rw [t]
  | d + 1, j, f + 1, e, hf, a => by
    have t : mTst (mOp (pure2 gIn) (mVar 3) (mVar 0)) [.val (.lst rows), .val v, .val k, .val (chain k (j + 1) v)] h = .ok true h := tst_ ((op2_ rfl rfl (gin_ok hv hk hr (by omega))).trans (by rw [a j (by omega)]))
    have s : S_least_step_1_w_0 [.val (.lst rows), .val v, .val k, .val (chain k (j + 1) v)] h = .nx [.val (.lst rows), .val v, .val k, .val (chain k (j + 2) v)] h := sset_ (call_ (cons_ rfl (cons_ rfl rfl)) (step_at hv hk (by omega) h))
    have ih := while_out hv hk hr hn q (h := h) d (j + 1) f (by omega) (by omega) a
    unfold sWhile
    rw [t]
    dsimp only
    rw [s]
    exact ih
  | d, _, 0, _, hf, _ => by omega
theorem least_ok (hv : v ∈ vs) (hk : k ∈ kinds) (hr : ∀ v ∈ rows, v ∈ vs) {n : Nat} (hn : n < 9) (q : inR rows k v n = false) (a : ∀ m, m < n → inR rows k v m = true) (h : Hm) : f_least_step [.lst rows, v, k] h = .ok (chain k (n + 1) v) h := by
  refine body_rt rfl (seq_ (sset_ (call_ (cons_ rfl (cons_ rfl rfl)) (step_at (n := 0) hv hk (by decide) h))) (seq_ (while_out hv hk hr hn q n 0 1000000 (by omega) (by omega) a) (sret_ rfl)))
end K01
end
section
set_option Elab.async false
set_option linter.all false
set_option maxRecDepth 100000
set_option maxHeartbeats 4000000
namespace K01
open PySem PySem.Spec PM PL
variable {v k : PV} {rows : List PV} {s0 s1 s4 s5 s6 s7 s8 s10 s11 s12 s13 s14 s15 s16 s17 s18 s19 s20 s21 s22 s23 s24 s25 : Slot} {h : Hm}
def cL (k v : PV) (n : Nat) : List PV := (List.range n).map fun i => chain k (i + 1) v
theorem turns_ok (hv : v ∈ vs) (hk : k ∈ kinds) : ∀ (d j : Nat) (s14 : Slot), j + d ≤ 9 → ∃ s', forL (gNm 14) (sSeq (S_law_0_b_8_b_5_b_0) (S_law_0_b_8_b_5_b_1)) ((List.range' j d).map fun (i : Nat) => .int (0 + (i : Int) * 1))
      [s0, s1, .val (.lst rows), .val v, s4, s5, s6, s7, s8, .val k, s10, s11, .val (.lst (cL k v j)), .val (chain k j v), s14, s15, s16, s17, s18, s19, s20, s21, s22, s23, s24, s25] h =
    .nx [s0, s1, .val (.lst rows), .val v, s4, s5, s6, s7, s8, .val k, s10, s11, .val (.lst (cL k v (j + d))), .val (chain k (j + d) v), s', s15, s16, s17, s18, s19, s20, s21, s22, s23, s24, s25] h
  | 0, j, s14, _ => ⟨s14, rfl⟩
  | d + 1, j, s14, hd => by
    obtain ⟨s', ih⟩ := turns_ok hv hk d (j + 1) (.val (.int (0 + (j : Int) * 1))) (by omega)
    refine ⟨s', ?_⟩
    rw [List.range'_succ, List.map_cons]
    rw [show j + (d + 1) = j + 1 + d by omega]
    refine forL_nx rfl (seq_ (sset_ (call_ (cons_ rfl (cons_ rfl rfl)) (step_at hv hk (by omega) h))) (sset_ (op_ rfl rfl ?_))) ih
    show fAdd (.lst (cL k v j)) (.lst [chain k (j + 1) v]) h = _
    have : cL k v (j + 1) = cL k v j ++ [chain k (j + 1) v] := by unfold cL; rw [List.range_succ, List.map_append]; rfl
    rw [this]
    exact add_lst (by unfold cL; rw [List.length_map, List.length_range]; simp; omega)
theorem ix_first (hv : v ∈ vs) (hk : k ∈ kinds) (hr : ∀ v ∈ rows, v ∈ vs) (hl : rows.length ≤ 8) {n : Nat} (hn : n ≤ rows.length) (q : inR rows k v n = false) (a : ∀ m, m < n → inR rows k v m = true) :
    mOp fIx (mLc [24] (mSrc (mVar 12)) (gNm 24) (mTst (mOp (pure2 gNotIn) (mVar 24) (mVar 2))) (mVar 24)) (mC (.int 0)) [s0, s1, .val (.lst rows), .val v, s4, s5, s6, s7, s8, .val k, s10, s11, .val (.lst (cL k v (rows.length + 1))), s13, s14, s15, s16, s17, s18, s19, s20, s21, s22, s23, s24, s25] h = .ok (chain k (n + 1) v) h := by
  have c : ∀ (l : List Nat), (∀ i ∈ l, i < 9) → compL (gNm 24) (mTst (mOp (pure2 gNotIn) (mVar 24) (mVar 2))) (mVar 24) [s0, s1, .val (.lst rows), .val v, s4, s5, s6, s7, s8, .val k, s10, s11, .val (.lst (cL k v (rows.length + 1))), s13, s14, s15, s16, s17, s18, s19, s20, s21, s22, s23, .no, s25] (l.map fun i => chain k (i + 1) v) h = .ok ((l.filter fun i => !inR rows k v i).map fun i => chain k (i + 1) v) h := fun l hi => compL_fm fun i hl => ⟨_, rfl, tst_ (op2_ rfl rfl (gnotin_ok hv hk hr (hi i hl))), fun _ => rfl⟩
  refine op_ (lc_ rfl (by unfold cL; rw [List.length_map, List.length_range]; omega) (c (List.range (rows.length + 1)) fun i hi => by rw [List.mem_range] at hi; omega)) rfl ?_
  have f : ((List.range (rows.length + 1)).filter fun i => !inR rows k v i).head? = some n := by
    rw [List.head?_filter, List.find?_range_eq_some]
    exact ⟨by rw [q]; rfl, List.mem_range.mpr (by omega), fun j hj => by rw [a j hj]; rfl⟩
  cases e : (List.range (rows.length + 1)).filter fun i => !inR rows k v i with
  | nil => rw [e] at f; simp at f
  | cons x l =>
    rw [e] at f
    simp at f
    subst f
    show (match L2.atI (chain k (x + 1) v :: l.map fun i => chain k (i + 1) v) 0 with | some v => Res.ok v h | none => .stuck) = _
    rw [ix_0]
theorem kind_turn (hv : v ∈ vs) (hk : k ∈ kinds) (hr : ∀ v ∈ rows, v ∈ vs) (hl : rows.length ≤ 8) : ∃ t10 t11 t12 t13 t14, (sSeq (S_law_0_b_8_b_0) (sSeq (S_law_0_b_8_b_1) (sSeq (S_law_0_b_8_b_2) (sSeq (S_law_0_b_8_b_3) (sSeq (S_law_0_b_8_b_4) (sSeq (S_law_0_b_8_b_5) (S_law_0_b_8_b_6)))))))
      [s0, s1, .val (.lst rows), .val v, s4, s5, s6, s7, s8, .val k, s10, s11, s12, s13, s14, s15, s16, s17, s18, s19, s20, s21, s22, s23, s24, s25] h =
    .nx [s0, s1, .val (.lst rows), .val v, s4, s5, s6, s7, s8, .val k, t10, t11, t12, t13, t14, s15, s16, s17, s18, s19, s20, s21, s22, s23, s24, s25] h := by
  obtain ⟨n, hn, q, a⟩ := first_out hv hk hr hl
  obtain ⟨s', tu⟩ := turns_ok (rows := rows) (s0 := s0) (s1 := s1) (s4 := s4) (s5 := s5) (s6 := s6) (s7 := s7) (s8 := s8) (s10 := .val (stp k v)) (s11 := .val (chain k (n + 1) v)) (s15 := s15) (s16 := s16) (s17 := s17) (s18 := s18) (s19 := s19) (s20 := s20) (s21 := s21) (s22 := s22) (s23 := s23) (s24 := s24) (s25 := s25) (h := h) hv hk (rows.length + 1) 0 s14 (by omega)
  refine ⟨.val (stp k v), .val (chain k (n + 1) v), .val (.lst (cL k v (0 + (rows.length + 1)))), .val (chain k (0 + (rows.length + 1)) v), s', ?_⟩
  refine seq3_ (h1 := h) (e1 := [s0, s1, .val (.lst rows), .val v, s4, s5, s6, s7, s8, .val k, .val (stp k v), s11, s12, s13, s14, s15, s16, s17, s18, s19, s20, s21, s22, s23, s24, s25]) ?_ ?_
  · have := List.map_inj_left.mp (List.map_inj_left.mp kind_all v hv) k hk
    exact congrFun (congrFun (congrFun (congrFun (congrFun (congrFun (congrFun (congrFun (congrFun (congrFun (congrFun this s0) s1) (.val (.lst rows))) s4) s5) s6) s7) s8) s10) [s11, s12, s13, s14, s15, s16, s17, s18, s19, s20, s21, s22, s23, s24, s25]) h
  · refine seq_ (sset_ (call_ (cons_ rfl (cons_ rfl (cons_ rfl rfl))) (least_ok hv hk hr (by omega) q a h))) (seq_ (h1 := h) (e1 := [s0, s1, .val (.lst rows), .val v, s4, s5, s6, s7, s8, .val k, .val (stp k v), .val (chain k (n + 1) v), .val (.lst []), .val v, s14, s15, s16, s17, s18, s19, s20, s21, s22, s23, s24, s25]) rfl (seq_ (h1 := h) ?_ (sif_f (tst_ (op2_ (y := chain k (n + 1) v) (h2 := h) rfl ?_ ?_)) rfl)))
    · refine for_ (rng1 (cons_ (op_ (call_ (cons_ rfl rfl) len_lst) rfl add_int) rfl) (by omega) (by omega)) ?_
      have e : ((rows.length : Int) + 1).toNat = rows.length + 1 := by omega
      rw [e]
      unfold rngRow
      rw [List.range_eq_range']
      exact tu
    · rw [show 0 + (rows.length + 1) = rows.length + 1 by omega]
      exact ix_first hv hk hr hl hn q a
    · have e := eqv_self _ (cD_sh hv hk (n := n) (by omega)).2
      unfold gNe gEqv
      simp only [cD_at hv hk (n := n) (by omega)]
      rw [if_pos ⟨(cD_sh hv hk (n := n) (by omega)).1, (cD_sh hv hk (n := n) (by omega)).1⟩, e]
      rfl
theorem kinds_ok (hv : v ∈ vs) (hr : ∀ v ∈ rows, v ∈ vs) (hl : rows.length ≤ 8) {s9 : Slot} : ∃ t9 t10 t11 t12 t13 t14, S_law_0_b_8 [s0, s1, .val (.lst rows), .val v, s4, s5, s6, s7, s8, s9, s10, s11, s12, s13, s14, s15, s16, s17, s18, s19, s20, s21, s22, s23, s24, s25] h =
    .nx [s0, s1, .val (.lst rows), .val v, s4, s5, s6, s7, s8, t9, t10, t11, t12, t13, t14, s15, s16, s17, s18, s19, s20, s21, s22, s23, s24, s25] h := by
  have go : ∀ (ks : List PV) (t9 t10 t11 t12 t13 t14 : Slot), (∀ k ∈ ks, k ∈ kinds) → ∃ u9 u10 u11 u12 u13 u14, forL (gNm 9) (sSeq (S_law_0_b_8_b_0) (sSeq (S_law_0_b_8_b_1) (sSeq (S_law_0_b_8_b_2) (sSeq (S_law_0_b_8_b_3) (sSeq (S_law_0_b_8_b_4) (sSeq (S_law_0_b_8_b_5) (S_law_0_b_8_b_6))))))) ks
      [s0, s1, .val (.lst rows), .val v, s4, s5, s6, s7, s8, t9, t10, t11, t12, t13, t14, s15, s16, s17, s18, s19, s20, s21, s22, s23, s24, s25] h = .nx [s0, s1, .val (.lst rows), .val v, s4, s5, s6, s7, s8, u9, u10, u11, u12, u13, u14, s15, s16, s17, s18, s19, s20, s21, s22, s23, s24, s25] h := by
    intro ks
    induction ks with
    | nil => intro t9 t10 t11 t12 t13 t14 _; exact ⟨t9, t10, t11, t12, t13, t14, rfl⟩
    | cons k ks ih =>
      intro t9 t10 t11 t12 t13 t14 hk
      obtain ⟨a10, a11, a12, a13, a14, q⟩ := kind_turn (s0 := s0) (s1 := s1) (s4 := s4) (s5 := s5) (s6 := s6) (s7 := s7) (s8 := s8) (s10 := t10) (s11 := t11) (s12 := t12) (s13 := t13) (s14 := t14) (s15 := s15) (s16 := s16) (s17 := s17) (s18 := s18) (s19 := s19) (s20 := s20) (s21 := s21) (s22 := s22) (s23 := s23) (s24 := s24) (s25 := s25) (h := h) hv (hk k List.mem_cons_self) hr hl
      obtain ⟨u9, u10, u11, u12, u13, u14, p⟩ := ih (.val k) a10 a11 a12 a13 a14 fun x hx => hk x (List.mem_cons_of_mem _ hx)
      exact ⟨u9, u10, u11, u12, u13, u14, forL_nx rfl q p⟩
  obtain ⟨u9, u10, u11, u12, u13, u14, p⟩ := go kinds s9 s10 s11 s12 s13 s14 fun k hk => hk
  exact ⟨u9, u10, u11, u12, u13, u14, p⟩
end K01
end
section
set_option Elab.async false
set_option linter.all false
set_option maxRecDepth 100000
set_option maxHeartbeats 0
namespace K01
open PySem PySem.Spec PM PL
open PyProof.Rows (b2i)
theorem plus_all : vs.map (fun v => fun h => fAdd (.str (txt v)) (.str "+b.7") h) = vs.map (fun v => fun h => .ok (.str (txt v ++ "+b.7")) h) := by kernel_rfl
theorem ne_self : vs.map (fun v => gNe v v) = vs.map (fun v => some (.bl false)) := by kernel_rfl
theorem txt_self : vs.map (fun v => gNe (.str (txt v)) (.str (txt v))) = vs.map (fun v => some (.bl false)) := by kernel_rfl
variable {v w : PV} {rows : List PV} {s0 s1 s2 s5 s6 s7 s8 s9 : Slot} {r : En} {h : Hm}
theorem S2_ok (hv : v ∈ vs) : S_law_0_b_2 (s0 :: s1 :: s2 :: .val v :: r) h = .nx (s0 :: s1 :: s2 :: .val v :: r) h := by
  have tx := at_all txt_all hv h
  have ns := List.map_inj_left.mp ne_self v hv
  exact sif_f (or_f (tst_ (op2_ (call_ (cons_ (call_ (cons_ (a := mVar 3) (ms := mNil) rfl rfl) tx) (ms := mNil) rfl) (at_all read_all hv h)) rfl ns)) (or_f (tst_ (op2_ (call_ (cons_ (a := mVar 3) (ms := mNil) rfl rfl) (at_all told_all hv h)) (call_ (cons_ (a := mVar 3) (ms := mNil) rfl rfl) tx) (List.map_inj_left.mp txt_self v hv)))
    (tst_ (op2_ (call_ (cons_ (op_ (call_ (cons_ (a := mVar 3) (ms := mNil) rfl rfl) tx) rfl (at_all plus_all hv h)) (ms := mNil) rfl) (at_all read2_all hv h)) rfl ns)))) rfl
theorem S3_ok (hv : v ∈ vs) (hw : w ∈ vs) : S_law_0_b_3 (s0 :: s1 :: s2 :: .val v :: .val w :: s5 :: s6 :: r) h = .nx (s0 :: s1 :: s2 :: .val v :: .val w :: .val (key v) :: .val (key w) :: r) h :=
  sasg_ (x := .tup [key v, key w]) (h1 := h) (by
    have hm := cons_ (call_ (cons_ (a := mVar 3) (ms := mNil) (e := s0 :: s1 :: s2 :: .val v :: .val w :: s5 :: s6 :: r) (h := h) rfl rfl) (key_at hv h)) (cons_ (call_ (cons_ (a := mVar 4) (ms := mNil) rfl rfl) (key_at hw h)) (ms := mNil) rfl)
    unfold mTup
    rw [hm]; rfl) rfl
theorem sub_bl (a b : Bool) : gSubA (.bl a) (.bl b) = some (.int (b2i a - b2i b)) := rfl
theorem bD_clt (hv : v ∈ vs) (hw : w ∈ vs) : CLt (bD v) (bD w) := by
  have c := (lD_clt hv hw).all
  have d := of_decide_eq_true (Bool.and_eq_true_iff.mp (List.all_eq_true.mp early_deep _ (parts_mem hv))).2
  have d2 : (bD v).depth ≤ 64 := by
    simp [bD, PyData.depth, PyData.depthAll, lD, row3]
    omega
  unfold CLt okLt
  simp only [Bool.and_eq_true, decide_eq_true_eq]
  refine ⟨⟨?_, rfl⟩, d2⟩
  simp [bD, PySem.W.alike, PySem.W.alikeAll, c.1]
theorem tup2_ {a b : M PV} {e : En} {h h1 h2 : Hm} {x y : PV} (ha : a e h = .ok x h1) (hb : b e h1 = .ok y h2) : mTup (mCons a (mCons b mNil)) e h = .ok (.tup [x, y]) h2 := by
  have hm := cons_ ha (cons_ hb (ms := mNil) rfl)
  unfold mTup
  rw [hm]; rfl
theorem gsub_ok (hv : v ∈ vs) (hw : w ∈ vs) : gGt (key v) (key w) = some (.bl (less w v)) ∧ gLt (key v) (key w) = some (.bl (less v w)) := ⟨gt_of (lD_at hv) (lD_at hw) (lD_clt hv hw), lt_of (lD_at hv) (lD_at hw) (lD_clt hv hw)⟩
theorem S4_ok (hv : v ∈ vs) (hw : w ∈ vs) : S_law_0_b_4 (s0 :: s1 :: s2 :: .val v :: .val w :: .val (key v) :: .val (key w) :: r) h = .nx (s0 :: s1 :: s2 :: .val v :: .val w :: .val (key v) :: .val (key w) :: r) h := by
  obtain ⟨g1, g2⟩ := gsub_ok hv hw
  refine sif_f (or_f (tst_ (op2_ (call_ (cons_ rfl (cons_ rfl rfl)) (order_ok hv hw h)) (op2_ (op2_ rfl rfl g1) (op2_ rfl rfl g2) (sub_bl _ _)) ((gNe_int _ _).trans (by simp)))) (or_f (tst_ (op2_ (op2_ (call_ (cons_ rfl rfl) (at_all kk_all hv h)) (call_ (cons_ rfl rfl) (at_all kk_all hw h)) (lt_of (kD_at hv) (kD_at hw) (kD_clt hv hw))) (op2_ rfl rfl g2) ((bl_eqv _ _).trans (by rw [keys_lt hv hw]; simp [less]))))
    (tst_ (op2_ (call_ (cons_ rfl (cons_ rfl rfl)) (better_ok hv hw h)) (op2_ (tup2_ (em_at hv rfl) rfl) (tup2_ (em_at hw rfl) rfl) (gt_of (bRow_at hv) (bRow_at hw) (bD_clt hv hw))) ((bl_eqv _ _).trans (by rw [bD_lt hw hv]; simp)))))) rfl
end K01
end
section
set_option Elab.async false
set_option linter.all false
set_option maxRecDepth 100000
set_option maxHeartbeats 4000000
namespace K01
open PySem PySem.Spec PM PL
variable {v w : PV} {rows : List PV} {s0 s1 s3 s4 s5 s6 s7 s8 s9 s10 s11 s12 s13 s14 s15 s16 s17 s18 s19 s20 s21 s22 s23 s24 s25 : Slot} {r : List PV} {h : Hm}
theorem bRow_self : vs.map (fun v => gNe (bRow v) (bRow v)) = vs.map (fun v => some (.bl false)) := by kernel_rfl
theorem max_ok (hv : v ∈ vs) (hr : ∀ w ∈ r, w ∈ vs) : fMax [.lst ((v :: r).map bRow)] h = .ok (bRow (nbest r v)) h := by
  have td : toDs ((v :: r).map bRow) = some ((v :: r).map bD) := toDs_map fun x hx => by
    rcases List.mem_cons.mp hx with rfl | hx
    · exact bRow_at hv
    · exact bRow_at (hr x hx)
  have hm : ∀ d ∈ (v :: r).map bD, ∃ x ∈ vs, d = bD x := fun d hd => by
    obtain ⟨x, hx, rfl⟩ := List.mem_map.mp hd
    rcases List.mem_cons.mp hx with rfl | hx
    · exact ⟨x, hv, rfl⟩
    · exact ⟨x, hr x hx, rfl⟩
  have ok : okMax ((v :: r).map bD) = true := by
    unfold okMax
    rw [Bool.and_eq_true, Bool.and_eq_true]
    refine ⟨List.all_eq_true.mpr fun d hd => List.all_eq_true.mpr fun e he => ?_, List.all_eq_true.mpr fun d hd => ?_, ?_⟩
    · obtain ⟨x, hx, rfl⟩ := hm d hd
      obtain ⟨y, hy, rfl⟩ := hm e he
      exact (bD_clt hx hy).all.1
    · obtain ⟨x, hx, rfl⟩ := hm d hd
      rfl
    · refine decide_eq_true ?_
      generalize (v :: r).map bD = ds at hm
      clear td
      induction ds with
      | nil => simp [PyData.depthAll]
      | cons d ds ih =>
        have a := ih fun x hx => hm x (List.mem_cons_of_mem _ hx)
        obtain ⟨x, hx, rfl⟩ := hm d List.mem_cons_self
        have b := (bD_clt hx hx).all.2.2
        simp only [PyData.depthAll]
        omega
  show (match toDs (bRow v :: r.map bRow) with | some (d :: ds) => if okMax (d :: ds) = true then Res.ok (ofD (PySem.W.maxD d ds)) h else .stuck | _ => .stuck) = _
  have td' : toDs (bRow v :: r.map bRow) = some (bD v :: r.map bD) := td
  rw [td']
  dsimp only
  have ok' : okMax (bD v :: r.map bD) = true := ok
  rw [if_pos ok']
  have : PySem.W.maxD (bD v) (r.map bD) = bD (nbest r v) := bD_fold hr hv
  rw [this, ofD_to _ _ (bRow_at (nbest_mem hr hv))]
theorem S6_ok (hv : v ∈ vs) (hr : ∀ w ∈ r, w ∈ vs) (hl : r.length ≤ 8) : S_law_0_b_6 [s0, s1, .val (.lst (v :: r)), s3, s4, s5, s6, s7, s8, s9, s10, s11, s12, s13, s14, s15, s16, s17, s18, s19, s20, s21, s22, s23, s24, s25] h =
    .nx [s0, s1, .val (.lst (v :: r)), s3, s4, s5, s6, s7, .val (bRow (nbest r v)), s9, s10, s11, s12, s13, s14, s15, s16, s17, s18, s19, s20, s21, s22, s23, s24, s25] h := by
  refine sset_ (call_ (cons_ (lc_ (ds := (v :: r).map id) (ys := (v :: r).map bRow) (by rw [List.map_id]; rfl) (by simp; omega) (compL_map fun x hx => ⟨_, rfl, rfl, ?_⟩)) rfl) (max_ok hv hr))
  have hx : x ∈ vs := by
    rcases List.mem_cons.mp hx with rfl | hx
    · exact hv
    · exact hr x hx
  exact tup2_ (em_at hx rfl) (call_ (cons_ (ms := mNil) rfl rfl) (key_at hx h))
theorem lst_ne_self (hr : ∀ w ∈ rows, w ∈ vs) : gNe (.lst rows) (.lst rows) = some (.bl false) := by
  have sd : PL.isD (.list (rows.map vD)) = true := by
    simp only [PL.isD]
    refine isDs_mem fun x hx => ?_
    obtain ⟨y, hy, rfl⟩ := List.mem_map.mp hx
    exact List.all_eq_true.mp (show (vs.all fun v => PL.isD (vD v)) = true by kernel_rfl) y (hr y hy)
  unfold gNe gEqv
  have td : toDs rows = some (rows.map vD) := by
    have := toDs_map (f := fun v => v) (g := vD) (l := rows) fun v hv => vD_at (hr v hv)
    simpa using this
  have sh : SeqAt.shaped (.list (rows.map vD)) = true := by
    refine shaped_list fun x hx => ?_
    obtain ⟨v, hv, rfl⟩ := List.mem_map.mp hx
    exact ⟨List.all_eq_true.mp vD_can v (hr v hv), of_decide_eq_true (List.all_eq_true.mp vD_deep v (hr v hv))⟩
  simp only [toD, td]
  rw [if_pos ⟨sh, sh⟩, eqv_self _ sd]; rfl
theorem S7_ok (hv : v ∈ vs) (hr : ∀ w ∈ r, w ∈ vs) (hl : r.length ≤ 8) : S_law_0_b_7 [s0, s1, .val (.lst (v :: r)), s3, s4, s5, s6, .val (.lst (sov (v :: r))), .val (bRow (nbest r v)), s9, s10, s11, s12, s13, s14, s15, s16, s17, s18, s19, s20, s21, s22, s23, s24, s25] h =
    .nx [s0, s1, .val (.lst (v :: r)), s3, s4, s5, s6, .val (.lst (sov (v :: r))), .val (bRow (nbest r v)), s9, s10, s11, s12, s13, s14, s15, s16, s17, s18, s19, s20, s21, s22, s23, s24, s25] h := by
  have hm : ∀ x ∈ v :: r, x ∈ vs := fun x hx => by
    rcases List.mem_cons.mp hx with rfl | hx
    · exact hv
    · exact hr x hx
  have nb := nbest_mem hr hv
  have nw := newest_ok (h := h) hv hr
  refine sif_f (or_f (tst_ (op2_ (call_ (cons_ (call_ (cons_ (a := mVar 2) (ms := mNil) rfl rfl) (in_order_ok (.inl rfl) hm (by simp; omega) h)) (ms := mNil) rfl) (show fList [.tup (sov (v :: r))] h = .ok (.lst (sov (v :: r))) h from rfl)) rfl (lst_ne_self (sov_mem hm)))) (tst_ (op2_ (tup2_ (em_at nb (call_ (cons_ (a := mVar 2) (ms := mNil) rfl rfl) nw)) (call_ (cons_ (call_ (cons_ (a := mVar 2) (ms := mNil) rfl rfl) nw) (ms := mNil) rfl) (key_at nb h))) rfl (List.map_inj_left.mp bRow_self _ nb)))) rfl
/-! ### the first number that differs -/
def spots (p q r : Bool) : List PV := (if p then [] else [.int 0]) ++ (if q then [] else [.int 1]) ++ (if r then [] else [.int 2])
variable {a b c a' b' c' : Int} {x y : PV}
theorem S13_ok : S_law_0_b_13 [s0, s1, s5, .val (.tup [.int a, .int b, .int c, x]), .val (.tup [.int a', .int b', .int c', y]), s6, s3, s7, s8, s9, s10, s11, s12, s13, s14, s15, s16, s17, s18, s19, s20, s21, s22, s23, s24, s25] h =
    .nx [s0, s1, s5, .val (.tup [.int a, .int b, .int c, x]), .val (.tup [.int a', .int b', .int c', y]), s6, s3, s7, s8, s9, s10, s11, s12, s13, s14, s15, s16, s17, s18, .val (.lst (spots (decide (a = a')) (decide (b = b')) (decide (c = c')))), s20, s21, s22, s23, s24, s25] h := by
  refine sset_ (lc_ (ds := [(0, a, a'), (1, b, b'), (2, c, c')].map fun (p : Int × Int × Int) => .int p.1) rfl (by simp) ?_)
  rw [compL_fm (t := fun (p : Int × Int × Int) => !decide (p.2.1 = p.2.2)) (f := fun (p : Int × Int × Int) => .int p.1) fun p hp => ⟨_, rfl, ?_, fun _ => rfl⟩]
  · congr 1
    simp only [List.filter_cons, List.filter_nil]
    cases decide (a = a') <;> cases decide (b = b') <;> cases decide (c = c') <;> rfl
  · have hp : p = (0, a, a') ∨ p = (1, b, b') ∨ p = (2, c, c') := by simpa using hp
    rcases hp with rfl | rfl | rfl <;> exact tst_ (op2_ (op_ rfl rfl rfl) (op_ rfl rfl rfl) (gNe_int _ _))
def sbB (p q r e : Bool) : PV := if !p then .str "great" else if !q then .str "small" else if !r then .str "fix" else if !e then .str "early" else .str ""
theorem sb_eq : sb a b c a' b' c' x y = sbB (decide (a = a')) (decide (b = b')) (decide (c = c')) (PyData.eqv (toDD x) (toDD y)) := by
  unfold sb sbB
  by_cases h1 : a = a' <;> by_cases h2 : b = b' <;> by_cases h3 : c = c' <;> cases PyData.eqv (toDD x) (toDD y) <;> simp [h1, h2, h3]
theorem S14_ok (hx : x ∈ earl) (hy : y ∈ earl) (hv : .tup [.int a, .int b, .int c, x] ∈ vs) (hw : .tup [.int a', .int b', .int c', y] ∈ vs) : S_law_0_b_14 [s0, s1, s5, .val (.tup [.int a, .int b, .int c, x]), .val (.tup [.int a', .int b', .int c', y]), s6, s3, s7, s8, s9, s10, s11, s12, s13, s14, s15, s16, s17, s18, .val (.lst (spots (decide (a = a')) (decide (b = b')) (decide (c = c')))), s20, s21, s22, s23, s24, s25] h =
    .nx [s0, s1, s5, .val (.tup [.int a, .int b, .int c, x]), .val (.tup [.int a', .int b', .int c', y]), s6, s3, s7, s8, s9, s10, s11, s12, s13, s14, s15, s16, s17, s18, .val (.lst (spots (decide (a = a')) (decide (b = b')) (decide (c = c')))), s20, s21, s22, s23, s24, s25] h := by
  have st := step_between_ok (a := a) (b := b) (c := c) (a' := a') (b' := b') (c' := c') hx hy h
  rw [sb_eq] at st
  have n3 := List.map_inj_left.mp (List.map_inj_left.mp ne3_all x hx) y hy
  obtain ⟨k1, k2⟩ := kp_ok hv hw h
  generalize PyData.eqv (toDD x) (toDD y) = eq at st n3
  generalize kp _ _ = kb at k1 k2
  have t2 : ∀ e : En, e[3]? = some (.val (.tup [.int a, .int b, .int c, x])) → e[4]? = some (.val (.tup [.int a', .int b', .int c', y])) → mTst (mOp (pure2 gNe) (mCall f_is_kept (mCons (mVar 3) (mCons (mVar 4) (mNil)))) (mCall f__law_kept (mCons (mVar 3) (mCons (mVar 4) (mNil))))) e h = .ok false h := fun e e3 e4 => by
    have m3 : mVar 3 e h = .ok (.tup [.int a, .int b, .int c, x]) h := by unfold mVar; rw [e3]
    have m4 : mVar 4 e h = .ok (.tup [.int a', .int b', .int c', y]) h := by unfold mVar; rw [e4]
    exact tst_ (op2_ (call_ (cons_ m3 (cons_ m4 rfl)) k1) (call_ (cons_ m3 (cons_ m4 rfl)) k2) ((bl_eqv _ _).trans (by simp)))
  generalize decide (a = a') = p at st ⊢
  generalize decide (b = b') = q at st ⊢
  generalize decide (c = c') = r at st ⊢
  refine sif_f (or_f (tst_ (op2_ (call_ (cons_ rfl (cons_ rfl rfl)) st) (y := sbB p q r eq) (h2 := h) ?_ ?_)) (t2 _ rfl rfl)) rfl
  · cases p <;> cases q <;> cases r <;> try rfl
    refine if_f (tst_ (op2_ (x := .lst []) (y := .lst []) rfl rfl rfl)) ?_
    cases eq
    · exact if_t (tst_ (op2_ (op_ rfl rfl rfl) (op_ rfl rfl rfl) n3)) rfl
    · exact if_f (tst_ (op2_ (op_ rfl rfl rfl) (op_ rfl rfl rfl) n3)) rfl
  · cases p <;> cases q <;> cases r <;> cases eq <;> kernel_rfl
end K01
end
section
set_option Elab.async false
set_option linter.all false
set_option maxRecDepth 100000
set_option maxHeartbeats 4000000
namespace K01
open PySem PySem.Spec PM PL
/-! ### the groups: each kept by its head, a new one where not -/
theorem kp_self : (vs.all fun v => kp v v) = true := by kernel_rfl
def goodG (g : List PV) : Prop := g ≠ [] ∧ (∀ v ∈ g, v ∈ vs) ∧ ∀ v ∈ g, kp (hd g) v = true
def adj : List (List PV) → Prop
  | [] => True
  | [_] => True
  | g :: g2 :: gs => kp (hd g) (hd g2) = false ∧ adj (g2 :: gs)
theorem hd_snoc {g : List PV} {v : PV} (n : g ≠ []) : hd (g ++ [v]) = hd g := by
  cases g with
  | nil => exact absurd rfl n
  | cons x g => rfl
theorem good_new {v : PV} (hv : v ∈ vs) : goodG [v] := ⟨by simp, by simpa using hv, by
  have := List.all_eq_true.mp kp_self v hv
  intro w hw
  simp at hw; subst hw
  exact this⟩
theorem good_push {g : List PV} {v : PV} (hg : goodG g) (hv : v ∈ vs) (k : kp (hd g) v = true) : goodG (g ++ [v]) := by
  refine ⟨by simp, fun w hw => ?_, fun w hw => ?_⟩
  · rcases List.mem_append.mp hw with h | h
    · exact hg.2.1 w h
    · simp at h; subst h; exact hv
  · rw [hd_snoc hg.1]
    rcases List.mem_append.mp hw with h | h
    · exact hg.2.2 w h
    · simp at h; subst h; exact k
theorem addG_inv : ∀ (gs : List (List PV)) (v : PV), v ∈ vs → (∀ g ∈ gs, goodG g) → adj gs → (∀ g ∈ addG gs v, goodG g) ∧ adj (addG gs v) ∧ ∀ g, gs.head? = some g → ∃ g', (addG gs v).head? = some g' ∧ hd g' = hd g
  | [], v, hv, _, _ => ⟨fun g hg => by simp [addG] at hg; subst hg; exact good_new hv, trivial, by simp⟩
  | [g], v, hv, h, _ => by
    have hg := h g (by simp)
    unfold addG
    split
    · rename_i k
      exact ⟨fun x hx => by simp at hx; subst hx; exact good_push hg hv k, trivial, fun x hx => by simp at hx; subst hx; exact ⟨_, rfl, hd_snoc hg.1⟩⟩
    · rename_i k
      refine ⟨fun x hx => ?_, ⟨(by simpa using k : kp (hd g) v = false), trivial⟩, fun x hx => by simp at hx; subst hx; exact ⟨_, rfl, rfl⟩⟩
      simp at hx
      rcases hx with rfl | rfl
      · exact hg
      · exact good_new hv
  | g :: g2 :: gs, v, hv, h, a => by
    obtain ⟨i1, i2, i3⟩ := addG_inv (g2 :: gs) v hv (fun x hx => h x (List.mem_cons_of_mem _ hx)) a.2
    obtain ⟨g', e1, e2⟩ := i3 g2 rfl
    show (∀ x ∈ g :: addG (g2 :: gs) v, goodG x) ∧ adj (g :: addG (g2 :: gs) v) ∧ _
    refine ⟨fun x hx => ?_, ?_, fun x hx => by simp at hx; subst hx; exact ⟨_, rfl, rfl⟩⟩
    · rcases List.mem_cons.mp hx with rfl | hx
      · exact h x (by simp)
      · exact i1 x hx
    · cases q : addG (g2 :: gs) v with
      | nil => trivial
      | cons y ys =>
        rw [q] at e1 i2
        simp at e1; subst e1
        exact ⟨by rw [e2]; exact a.1, i2⟩
theorem groups_inv : ∀ (xs : List PV) (gs : List (List PV)), (∀ v ∈ xs, v ∈ vs) → (∀ g ∈ gs, goodG g) → adj gs → (∀ g ∈ groups gs xs, goodG g) ∧ adj (groups gs xs)
  | [], gs, _, h, a => ⟨h, a⟩
  | v :: xs, gs, hx, h, a => by
    obtain ⟨i1, i2, _⟩ := addG_inv gs v (hx v List.mem_cons_self) h a
    exact groups_inv xs (addG gs v) (fun w hw => hx w (List.mem_cons_of_mem _ hw)) i1 i2
theorem adj_at : ∀ {gs : List (List PV)} {i : Nat}, adj gs → (h : i + 1 < gs.length) → kp (hd (gs.getD i [])) (hd (gs.getD (i + 1) [])) = false
  | [], i, _, h => by simp at h
  | [g], i, _, h => by simp at h
  | g :: g2 :: gs, 0, a, _ => a.1
  | g :: g2 :: gs, i + 1, a, h => by
    have := adj_at (gs := g2 :: gs) (i := i) a.2 (by simp at h ⊢; omega)
    simpa using this
variable {rows : List PV} {s0 s1 s2 s3 s4 s5 s6 s7 s8 s9 s10 s11 s12 s13 s14 s15 s16 s17 s18 s19 s20 s21 s22 s23 s24 s25 : Slot} {r : List PV} {h : Hm}
theorem rowsOf_lst : ∀ gs : List (List PV), PM.rowsOf h (gs.map .lst) = some gs
  | [] => rfl
  | g :: gs => by simp only [List.map_cons, PM.rowsOf, PM.listOf, rowsOf_lst gs]
theorem S16_ok (hr : ∀ w ∈ rows, w ∈ vs) (hl : rows.length ≤ 8) : S_law_0_b_16 [s0, s1, s2, s3, s4, s5, s6, .val (.lst (sov rows)), s8, s9, s10, s11, s12, s13, s14, s15, s16, s17, s18, s19, .val (.tup ((grp rows).map .tup)), s21, s22, s23, s24, s25] h =
    .nx [s0, s1, s2, s3, s4, s5, s6, .val (.lst (sov rows)), s8, s9, s10, s11, s12, s13, s14, s15, s16, s17, s18, s19, .val (.tup ((grp rows).map .tup)), s21, s22, s23, s24, s25] h := by
  have hm := sov_mem hr
  have hf : (grp rows).flatten = sov rows := by unfold grp; rw [groups_flat]; rfl
  obtain ⟨i1, i2⟩ : (∀ g ∈ grp rows, goodG g) ∧ adj (grp rows) := groups_inv (sov rows) [] hm (by simp) trivial
  have hlen : (grp rows).length ≤ 8 := by
    have a := flat_len (gs := grp rows) fun g hg => (i1 g hg).1
    rw [hf, sov_len] at a
    omega
  have hgl : ∀ g ∈ grp rows, g.length ≤ 8 := fun g hg => by
    have a := mem_flat_len hg
    rw [hf, sov_len] at a
    omega
  generalize hg : grp rows = gs at *
  have e0 : gNe (.lst []) (.lst []) = some (.bl false) := rfl
  refine sif_f (or_f (tst_ (op2_ (call_ (cons_ (lc_ (ds := gs.map .tup) (ys := gs.map .lst) rfl (by rw [List.length_map]; omega) (compL_map fun g hg => ⟨_, rfl, rfl, call_ (cons_ rfl rfl) rfl⟩)) (cons_ rfl rfl)) (?_ : fSumL [.lst (gs.map .lst), .lst []] h = .ok (.lst (sov rows)) h)) rfl (lst_ne_self hm))) (or_f (h1 := h) (tst_ (op2_ (lc_ (h1 := h) (h2 := h) (ds := gs.map .tup) (ys := []) rfl (by rw [List.length_map]; omega) ?_) rfl e0)) (tst_ (op2_ (h1 := h) (h2 := h) (lc_ (h1 := h) (h2 := h) (ds := (List.range ((gs.length : Int) - 1).toNat).map fun (i : Nat) => .int (0 + (i : Int) * 1)) (ys := []) ?_ (by rw [List.length_map, List.length_range]; omega) ?_) rfl e0)))) rfl
  · show (match PM.rowsOf h (gs.map .lst) with | some rows => if ([] : List PV).length + rows.flatten.length ≤ 1000000 then (if (gs.map PV.lst).isEmpty then Res.ok (PV.lst []) h else .ok (.lst ([] ++ rows.flatten)) h) else .stuck | none => .stuck) = _
    rw [rowsOf_lst]
    dsimp only
    rw [hf, if_pos (by rw [sov_len]; simp; omega)]
    cases gs with
    | nil => simp at hf; simp [← hf]
    | cons g gs => rfl
  · rw [compL_fm (t := fun _ => false) (f := fun g => .tup g) fun g hg => ⟨_, rfl, ?_, fun z => by cases z⟩]
    · simp
    · obtain ⟨n, mv, kk⟩ := i1 g hg
      refine tst_ (op2_ (x := .lst []) (lc_ (ds := g.map id) (h1 := h) (h2 := h) (by rw [List.map_id]; rfl) (by rw [List.length_map]; have := hgl g hg; omega) ?_) rfl e0)
      rw [compL_fm (t := fun _ => false) (f := id) fun v hv => ⟨_, rfl, ?_, fun z => by cases z⟩]
      · simp
      · have hh : hd g ∈ vs := by
          cases g with
          | nil => exact absurd rfl n
          | cons x g => exact mv x List.mem_cons_self
        refine (not_ (tst_ (t := true) (call_ (cons_ (op_ rfl rfl (show fIx (.tup g) (.int 0) h = .ok (hd g) h from ?_)) (cons_ rfl rfl)) ?_))).trans rfl
        · cases g with
          | nil => exact absurd rfl n
          | cons x g =>
            show (match L2.atI (x :: g) 0 with | some v => Res.ok v h | none => .stuck) = _
            rw [ix_0]; rfl
        · have := (kp_ok hh (mv v hv) h).2
          rw [kk v hv] at this
          exact this
  · refine (rng1 (n := (gs.length : Int) - 1) (cons_ (op2_ (call_ (cons_ rfl rfl) len_tup) rfl ?_) rfl) (by omega) (by omega)).trans rfl
    rw [List.length_map]; rfl
  · rw [compL_fm (t := fun _ => false) (f := fun (i : Nat) => .int i) fun i hi => ⟨_, rfl, ?_, fun z => by cases z⟩]
    · simp
    · rw [List.mem_range] at hi
      have ix : ∀ (j : Nat), j < gs.length → fIx (.tup (gs.map .tup)) (.int (j : Int)) h = .ok (.tup (gs.getD j [])) h := fun j hj => by
        show (match L2.atI (gs.map PV.tup) (j : Int) with | some v => Res.ok v h | none => .stuck) = _
        rw [atI_nat (by rw [List.length_map]; exact hj)]
        simp [List.getD_eq_getElem?_getD, hj]
      have hx : ∀ (j : Nat), j < gs.length → fIx (.tup (gs.getD j [])) (.int 0) h = .ok (hd (gs.getD j [])) h ∧ hd (gs.getD j []) ∈ vs := fun j hj => by
        have hm : gs.getD j [] ∈ gs := by
          rw [List.getD_eq_getElem?_getD, List.getElem?_eq_getElem hj]; exact List.getElem_mem hj
        obtain ⟨n, mv, _⟩ := i1 _ hm
        cases q : gs.getD j [] with
        | nil => exact absurd q n
        | cons x g =>
          rw [q] at mv
          refine ⟨?_, mv x List.mem_cons_self⟩
          show (match L2.atI (x :: g) 0 with | some v => Res.ok v h | none => .stuck) = _
          rw [ix_0]; rfl
      have a := (kp_ok (hx i (by omega)).2 (hx (i + 1) (by omega)).2 h).2
      rw [adj_at i2 (by omega)] at a
      have z1 : (0 + (i : Int) * 1) = (i : Int) := by omega
      have z2 : (i : Int) + 1 = ((i + 1 : Nat) : Int) := by omega
      rw [z1]
      refine tst_ (call_ (cons_ (op_ (op_ rfl rfl (ix i (by omega))) rfl (hx i (by omega)).1) (cons_ (op_ (op_ rfl (op_ rfl rfl add_int) ?_) rfl (hx (i + 1) (by omega)).1) rfl)) a)
      rw [z2]
      exact ix (i + 1) (by omega)
end K01
end
section
set_option Elab.async false
set_option linter.all false
set_option maxRecDepth 100000
set_option maxHeartbeats 0
namespace K01
open PySem PySem.Spec PM PL
def isTrue (r : Res PV) : Bool := match r with
  | .ok (.bl b) _ => b
  | _ => false
theorem plain_run : isTrue (f__law_plain [] []) = true := by kernel_rfl
theorem plain_ok (h : Hm) : fZ f__law_plain [] h = .ok (.bl true) h := by
  have p := plain_run
  unfold fZ
  rw [if_pos (show noRefs [] = true from rfl)]
  cases q : f__law_plain [] [] with
  | ok v h1 =>
    rw [q] at p
    cases v with
    | bl b =>
      have : b = true := p
      subst this
      rfl
    | _ => exact absurd (show false = true from p) (by decide)
  | exc c h1 => rw [q] at p; exact absurd (show false = true from p) (by decide)
  | stuck => rw [q] at p; exact absurd (show false = true from p) (by decide)
end K01
end
section
set_option Elab.async false
set_option linter.all false
set_option maxRecDepth 100000
set_option maxHeartbeats 4000000
namespace K01
open PySem PySem.Spec PM PL
theorem dice_ok (c : Int) (h : Hm) : ∃ a b k : Int, f__law_dice [.int c] h = .ok (.ref h.length) (h ++ [.lst [.int a, .int b, .int k]]) := by
  have m : mNew (mCons (mVar 0) (mCons (mOp (fAdd) (mC (.int 1)) (mOp (pure2 gMod) (mCall fInt (mCons (mVar 0) mNil)) (mC (.int 1009)))) (mCons (mCall fInt (mCons (mOp (pure2 gGe) (mVar 0) (mOp (pure2 gPow) (mC (.int 10)) (mC (.int 18)))) mNil)) (mNil)))) [.val (.int c)] h =
      .ok (.ref h.length) (h ++ [.lst [.int c, .int (1 + c % 1009), .int (if decide (1000000000000000000 ≤ c) then 1 else 0)]]) :=
    new_ (cons_ rfl (cons_ (op_ rfl (op2_ (call_ (cons_ rfl rfl) rfl) rfl rfl) add_int) (cons_ (call_ (cons_ (op2_ rfl (op2_ (z := .int 1000000000000000000) rfl rfl (by kernel_rfl)) (gGe_int _ _)) rfl) rfl) rfl))) (by simp)
  by_cases h1 : -10 < c
  · by_cases h2 : c < 10
    · exact ⟨if c < 0 then -c else c, 0, 2, body_rt rfl (seq_rt (sif_t (tst_ (chain_t rfl rfl ((pure2_some (gLt_int _ _)).trans (by rw [decide_eq_true (show (0 - 10 : Int) < c by omega)])) rfl ((pure2_some (gLt_int _ _)).trans (by rw [decide_eq_true h2])))) (sret_ (new_ (cons_ (call_ (cons_ rfl rfl) rfl) (cons_ rfl (cons_ rfl rfl))) (by simp)))))⟩
    · exact ⟨c, 1 + c % 1009, (if decide (1000000000000000000 ≤ c) then 1 else 0), body_rt rfl (seq_ (sif_f (tst_ (chain_t rfl rfl ((pure2_some (gLt_int _ _)).trans (by rw [decide_eq_true (show (0 - 10 : Int) < c by omega)])) rfl ((pure2_some (gLt_int _ _)).trans (by rw [decide_eq_false h2])))) rfl) (sret_ m))⟩
  · exact ⟨c, 1 + c % 1009, (if decide (1000000000000000000 ≤ c) then 1 else 0), body_rt rfl (seq_ (sif_f (tst_ (chain_f rfl rfl ((pure2_some (gLt_int _ _)).trans (by rw [decide_eq_false (show ¬ (0 - 10 : Int) < c by omega)])))) rfl) (sret_ m))⟩
theorem rounds_ok (ns : List Int) : ∃ h', f__law_rounds [.lst (ns.map .int), .int 1] [] = .ok (.lst [.ref 0]) h' ∧ Dice h' 0 := by
  have tail : ∀ c : Int, ∃ h', sRet (mLc [3] (mSrc (mVar 2)) (gNm 3) (mYes) (mCall f__law_dice (mCons (mVar 3) (mNil)))) [.val (.lst (ns.map .int)), .val (.int 1), .val (.lst [.int c]), .no] [] = .rt (.lst [.ref 0]) h' ∧ Dice h' 0 := fun c => by
    obtain ⟨a, b, k, q⟩ := dice_ok c []
    refine ⟨[.lst [.int a, .int b, .int k]], sret_ (lc_ (ds := [.int c]) (ys := [.ref 0]) rfl (by simp) ?_), ⟨a, b, k, rfl⟩⟩
    unfold compL
    show ((mCall f__law_dice (mCons (mVar 3) mNil) [.val (.lst (ns.map .int)), .val (.int 1), .val (.lst [.int c]), .val (.int c)] []).bind _) = _
    rw [call_ (cons_ rfl rfl) q]
    rfl
  cases ns with
  | nil =>
    obtain ⟨h', q, d⟩ := tail 0
    exact ⟨h', body_rt rfl (seq_ (e1 := [.val (.lst []), .val (.int 1), .val (.lst []), .no]) (h1 := []) (sset_ (by show fSl (.lst []) none (some 1) [] = _; rfl)) (seq_ (sif_t (tst_ (op2_ rfl rfl rfl)) rfl) q)), d⟩
  | cons c ns =>
    obtain ⟨h', q, d⟩ := tail c
    refine ⟨h', body_rt rfl (seq_ (e1 := [.val (.lst (((c :: ns).map .int))), .val (.int 1), .val (.lst [.int c]), .no]) (h1 := []) (sset_ ?_) (seq_ (sif_f (tst_ (op2_ rfl rfl rfl)) rfl) q)), d⟩
    show fSl (.lst ((c :: ns).map .int)) none (some 1) [] = _
    have : cutP ((c :: ns).map PV.int) none (some 1) = [.int c] := by
      unfold cutP HT.sIx
      simp
    show Res.ok (PV.lst (cutP ((c :: ns).map PV.int) none (some 1))) [] = _
    rw [this]
end K01
end
section
set_option Elab.async false
set_option linter.all false
set_option maxRecDepth 100000
set_option maxHeartbeats 4000000
namespace K01
open PySem PySem.Spec PM PL
theorem parts_of {v : PV} (hv : v ∈ vs) : ∃ (a b c : Int) (x : PV), v = .tup [.int a, .int b, .int c, x] ∧ x ∈ earl := by
  obtain ⟨a, _, hv⟩ := List.mem_flatMap.mp hv
  obtain ⟨b, _, hv⟩ := List.mem_flatMap.mp hv
  obtain ⟨c, _, hv⟩ := List.mem_flatMap.mp hv
  obtain ⟨e, he, rfl⟩ := List.mem_map.mp hv
  exact ⟨a, b, c, e, rfl, he⟩
theorem seq4_ {a b c d f : Sm} {e e1 : En} {h h1 : Hm} {r : Fl} (q : sSeq a (sSeq b (sSeq c d)) e h = .nx e1 h1) (p : f e1 h1 = r) : sSeq a (sSeq b (sSeq c (sSeq d f))) e h = r := by
  unfold sSeq at q ⊢
  cases ha : a e h with
  | nx e2 h2 =>
    rw [ha] at q
    dsimp only at q ⊢
    cases hb : b e2 h2 with
    | nx e3 h3 =>
      rw [hb] at q
      dsimp only at q ⊢
      cases hc : c e3 h3 with
      | nx e4 h4 =>
        rw [hc] at q
        dsimp only at q ⊢
        rw [q]
        exact p
      | _ => rw [hc] at q; simp at q
    | _ => rw [hb] at q; simp at q
  | _ => rw [ha] at q; simp at q
theorem last_of {v : PV} {r : List PV} : ∃ w, w ∈ v :: r ∧ L2.atI (v :: r) (-1) = some w := by
  rcases snoc_of (v :: r) with h | ⟨a, b, h⟩
  · cases h
  · exact ⟨b, by rw [h]; simp, by rw [h]; exact ix_m1⟩
/-- a turn of the law -/
theorem body_ok {h : Hm} {s0 : Slot} (D : Dice h 0) : ∃ e' h', (sSeq (S_law_0_b_0) (
  sSeq (S_law_0_b_1) (
  sSeq (S_law_0_b_2) (
  sSeq (S_law_0_b_3) (
  sSeq (S_law_0_b_4) (
  sSeq (S_law_0_b_5) (
  sSeq (S_law_0_b_6) (
  sSeq (S_law_0_b_7) (
  sSeq (S_law_0_b_8) (
  sSeq (S_law_0_b_9) (
  sSeq (S_law_0_b_10) (
  sSeq (S_law_0_b_11) (
  sSeq (S_law_0_b_12) (
  sSeq (S_law_0_b_13) (
  sSeq (S_law_0_b_14) (
  sSeq (S_law_0_b_15) (
  S_law_0_b_16))))))))))))))))) [s0, .val (.ref 0), .no, .no, .no, .no, .no, .no, .no, .no, .no, .no, .no, .no, .no, .no, .no, .no, .no, .no, .no, .no, .no, .no, .no, .no] h = .nx e' h' := by
  obtain ⟨rows, h1, q0, l0, l8, hr, D1, _⟩ := rows_ok (e := [s0, .val (.ref 0), .no, .no, .no, .no, .no, .no, .no, .no, .no, .no, .no, .no, .no, .no, .no, .no, .no, .no, .no, .no, .no, .no, .no, .no]) D rfl rfl
  obtain ⟨v, r, rfl⟩ : ∃ v r, rows = v :: r := by
    cases rows with
    | nil => simp at l0
    | cons v r => exact ⟨v, r, rfl⟩
  have hv : v ∈ vs := hr v List.mem_cons_self
  have hr' : ∀ w ∈ r, w ∈ vs := fun w hw => hr w (List.mem_cons_of_mem _ hw)
  have lr : r.length ≤ 8 := by simp at l8; omega
  obtain ⟨w, mw, aw⟩ := last_of (v := v) (r := r)
  have hw : w ∈ vs := hr w mw
  obtain ⟨a, b, c, x, ev, hx⟩ := parts_of hv
  obtain ⟨a', b', c', y, ew, hy⟩ := parts_of hw
  obtain ⟨t9, t10, t11, t12, t13, t14, kq⟩ := kinds_ok (rows := v :: r) (s0 := s0) (s1 := .val (.ref 0)) (s4 := .val w) (s5 := .val (key v)) (s6 := .val (key w)) (s7 := .val (.lst (sov (v :: r)))) (s8 := .val (bRow (nbest r v))) (s9 := .no) (s10 := .no) (s11 := .no) (s12 := .no) (s13 := .no) (s14 := .no) (s15 := .no) (s16 := .no) (s17 := .no) (s18 := .no) (s19 := .no) (s20 := .no) (s21 := .no) (s22 := .no) (s23 := .no) (s24 := .no) (s25 := .no) (h := h1) hv hr l8
  have iv : fIx (.lst (v :: r)) (.int 0) h1 = .ok v h1 := by
    show (match L2.atI (v :: r) 0 with | some v => Res.ok v h1 | none => .stuck) = _
    rw [ix_0]
  have iw : fIx (.lst (v :: r)) (.int (-1)) h1 = .ok w h1 := by
    show (match L2.atI (v :: r) (-1) with | some v => Res.ok v h1 | none => .stuck) = _
    rw [aw]
  have opq := List.map_inj_left.mp opt_all v hv
  have opq : (sSeq S_law_0_b_9 (sSeq S_law_0_b_10 (sSeq S_law_0_b_11 S_law_0_b_12))) [s0, .val (.ref 0), .val (.lst (v :: r)), .val v, .val w, .val (key v), .val (key w), .val (.lst (sov (v :: r))), .val (bRow (nbest r v)), t9, t10, t11, t12, t13, t14, .no, .no, .no, .no, .no, .no, .no, .no, .no, .no, .no] h1 =
      Fl.nx [s0, .val (.ref 0), .val (.lst (v :: r)), .val v, .val w, .val (key v), .val (key w), .val (.lst (sov (v :: r))), .val (bRow (nbest r v)), .val (.str "fix"), t10, t11, t12, t13, t14, .val opG, .val (opS v), .val (opF v), .val (opF v), .no, .no, .no, .no, .no, .no, .no] h1 :=
    congrFun (congrFun (congrFun (congrFun (congrFun (congrFun (congrFun (congrFun (congrFun (congrFun (congrFun (congrFun (congrFun (congrFun (congrFun (congrFun (congrFun (congrFun (congrFun (congrFun (congrFun (congrFun (congrFun (congrFun (congrFun opq s0) (.val (.ref 0))) (.val (.lst (v :: r)))) (.val w)) (.val (key w))) (.val (.lst (sov (v :: r))))) (.val (bRow (nbest r v)))) t9) t10) t11) t12) t13) t14) .no) .no) .no) .no) .no) .no) .no) .no) .no) .no) .no) h1
  have hv2 : .tup [.int a, .int b, .int c, x] ∈ vs := ev ▸ hv
  have hw2 : .tup [.int a', .int b', .int c', y] ∈ vs := ew ▸ hw
  have s13 := S13_ok (s0 := s0) (s1 := .val (.ref 0)) (s5 := .val (.lst (v :: r))) (s6 := .val (key v)) (s3 := .val (key w)) (s7 := .val (.lst (sov (v :: r)))) (s8 := .val (bRow (nbest r v))) (s9 := .val (.str "fix")) (s10 := t10) (s11 := t11) (s12 := t12) (s13 := t13) (s14 := t14) (s15 := .val opG) (s16 := .val (opS v)) (s17 := .val (opF v)) (s18 := .val (opF v)) (s19 := .no) (s20 := .no) (s21 := .no) (s22 := .no) (s23 := .no) (s24 := .no) (s25 := .no) (h := h1) (a := a) (b := b) (c := c) (a' := a') (b' := b') (c' := c') (x := x) (y := y)
  have s14 := S14_ok (s0 := s0) (s1 := .val (.ref 0)) (s5 := .val (.lst (v :: r))) (s6 := .val (key v)) (s3 := .val (key w)) (s7 := .val (.lst (sov (v :: r)))) (s8 := .val (bRow (nbest r v))) (s9 := .val (.str "fix")) (s10 := t10) (s11 := t11) (s12 := t12) (s13 := t13) (s14 := t14) (s15 := .val opG) (s16 := .val (opS v)) (s17 := .val (opF v)) (s18 := .val (opF v)) (s20 := .no) (s21 := .no) (s22 := .no) (s23 := .no) (s24 := .no) (s25 := .no) (h := h1) hx hy hv2 hw2
  rw [← ev, ← ew] at s13 s14
  have tail := seq4_ opq (seq_ s13 (seq_ s14 (seq_ (sset_ (i := 20) (call_ (cons_ (a := mVar 2) (ms := mNil) rfl rfl) (groups_ok (.inl rfl) hr l8 h1))) (S16_ok (rows := v :: r) hr l8))))
  exact ⟨_, _, seq_ (sset_ q0) (seq_ (sasg_ (x := .tup [v, w]) (h1 := h1) (tup2_ (op_ rfl rfl iv) (op_ rfl rfl iw)) rfl) (seq_ (S2_ok hv) (seq_ (S3_ok hv hw) (seq_ (S4_ok hv hw) (seq_ (sset_ (sorts_ok rfl rfl hr (by omega) h1)) (seq_ (S6_ok hv hr' lr) (seq_ (S7_ok hv hr' lr) (seq_ kq tail))))))))⟩
/-- the law, in plain words -/
theorem law_ok : LawOk f_law 63 := by
  intro ns _ _
  obtain ⟨h1, q, D⟩ := rounds_ok ns
  obtain ⟨e', h', b⟩ := body_ok (s0 := .val (.lst (ns.map .int))) D
  have s0 : S_law_0 (startP 26 [.lst (ns.map .int)]) [] = .nx e' h' := for_ (src_ (call_ (cons_ rfl (cons_ rfl rfl)) q) rfl) (forL_nx rfl b rfl)
  exact ⟨h', body_rt rfl (seq_ s0 (sret_ (call_ rfl (plain_ok h'))))⟩
end K01
end
set_option Elab.async false
set_option maxRecDepth 100000
set_option maxHeartbeats 0
open PySem PySem.W PySem.Calls PyProof.Rows
theorem PySem.Challenge.cw_resolvestack_k01_numbers_of_releases_holds : PySem.Challenge.rw_resolvestack_k01_numbers_of_releases.Holds := by
  w_on; o_law
  refine HandSHeadRun.head_any (r := OpenLaw.row PySem.Challenge.rw_resolvestack_k01_numbers_of_releases) (q := view (OpenLaw.row PySem.Challenge.rw_resolvestack_k01_numbers_of_releases).prog [30]) (H := K01.hk) (ob := K01.ob) (M := 20000) (loose := K01.names) (d := HandSHeadRun.topDef (OpenLaw.row PySem.Challenge.rw_resolvestack_k01_numbers_of_releases).prog 30) (kwd := []) K01.ob_eq
    (by kernel_rfl) (fun s => by kernel_rfl) K01.run (by kernel_rfl) (by kernel_rfl) (by kernel_rfl) (by rfl) (by first | assumption | decide +kernel) (by decide +kernel) ⟨rfl, rfl, rfl, rfl, rfl, by decide +kernel⟩ ?hw ?hc
  case hw => w_witness2
  case hc =>
    refine LamX.walk_ofTsE (l := PySem.Challenge.rw_resolvestack_k01_numbers_of_releases) (n := 63) (k := 15) (x := "script") (CX := fun w => L2.CX (PySem.Challenge.rw_resolvestack_k01_numbers_of_releases).prog w) rfl (by decide) (by kernel_rfl) ⟨rfl, by decide, by decide⟩ ?F (fun _ _ _ _ _ z => PM.cx_no z)
    intro w mg fa h Y G hmg0
    obtain ⟨K, KX, c⟩ := Y
    have hmg : mg ("law" : PySem.Str) = some (.ref fa) := by
      have e : (HandSHeadRun.topDef (OpenLaw.row PySem.Challenge.rw_resolvestack_k01_numbers_of_releases).prog 30).name = ("law" : PySem.Str) := by kernel_rfl
      rw [← e]
      exact hmg0
    exact ⟨K, KX, PM.law_at (F := K01.f_law) 23 25 KX G hmg c (d := K01.dOf 30 "law") rfl rfl rfl rfl rfl (fun _ _ _ _ _ _ us hl => match us, hl with | [_], _ => rfl) (fun base C fd F => K01.fo_law C F) K01.law_ok⟩
