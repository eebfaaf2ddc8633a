import PyProof.Rows.All
import Wide.All
import OpenK.AllK
import Wide.FinOn
import HandS.ForMost
import HandS.Ends
import HandS.Words
import HandS.Exc
import HandS.WordsExc
import HandS.Deep
import HandS.TupAny
import HandS.TupLe
import HandS.IsInst
import HandS.ExcInit
import HandS.ExcSuper
import HandS.TryMany
import HandS.ExcField
import KE.KExcSuper
import HandS.ExcIs
import KE.KExcIs
import HandS.Dict
import HandS.More
import PySem.Challenge.RW_allfollowed_k00_names_and_sayings
set_option Elab.async false
set_option linter.all false
set_option maxRecDepth 100000
set_option maxHeartbeats 4000000
/-! Layer Y, part A: data values, the state, the judgements. -/
namespace Y
open PySem PySem.Spec PyProof.Rows L2

/-- a value: pure data, or the address of a thing that may change -/
inductive D where
  | d (x : PyData)
  | r (a : Addr)

/-- what stands at such an address -/
inductive MO where
  | lst (xs : List D)
  | dct (kvs : List (Key × D))
  | dcT (kvs : List (List Key × D))
  | ins (C dx : Addr) (fs : List (Str × D))

abbrev MH := Addr → Option MO
/-- the state: what is seen, and a word about what is hidden -/
structure MS where
  m : MH
  bx : MH → Prop

def MS.put (M : MS) (a : Addr) (o : MO) : MS := { M with m := fun b => if b = a then some o else M.m b }
def MS.del (M : MS) (a : Addr) : MS := { M with m := fun b => if b = a then none else M.m b }
theorem MS.put_same {M : MS} {a : Addr} {o : MO} : (M.put a o).m a = some o := by show (if a = a then _ else _) = _; rw [if_pos rfl]
theorem MS.put_ne {M : MS} {a b : Addr} {o : MO} (h : b ≠ a) : (M.put a o).m b = M.m b := by show (if b = a then _ else _) = _; rw [if_neg h]
theorem MS.del_same {M : MS} {a : Addr} : (M.del a).m a = none := by show (if a = a then _ else _) = _; rw [if_pos rfl]
theorem MS.del_ne {M : MS} {a b : Addr} (h : b ≠ a) : (M.del a).m b = M.m b := by show (if b = a then _ else _) = _; rw [if_neg h]
theorem MS.put_put {M : MS} {a : Addr} {o u : MO} : (M.put a o).put a u = M.put a u := by
  cases M; simp only [MS.put, MS.mk.injEq, and_true]; funext b; split <;> rfl
theorem MS.put_del {M : MS} {a : Addr} {o : MO} (h : M.m a = none) : (M.put a o).del a = M := by
  cases M; simp only [MS.put, MS.del, MS.mk.injEq, and_true]; funext b; split
  · rename_i e; subst e; exact h.symm
  · rfl
/-- the lesser state: less is seen -/
structure MS.le (M M' : MS) : Prop where
  m : ∀ a o, M.m a = some o → M'.m a = some o
  bx : M'.bx = M.bx
theorem MS.le.refl (M : MS) : M.le M := ⟨fun _ _ h => h, rfl⟩
theorem MS.le.trans {M M1 M2 : MS} (a : M.le M1) (b : M1.le M2) : M.le M2 := ⟨fun x o h => b.m x o (a.m x o h), b.bx.trans a.bx⟩
theorem MS.le.put {M M' : MS} {a : Addr} {o : MO} (l : M.le M') (h : M.m a = none) : M.le (M'.put a o) := ⟨fun b u e => by
  by_cases hb : b = a
  · subst hb; rw [h] at e; cases e
  · rw [MS.put_ne hb]; exact l.m b u e, l.bx⟩

inductive Fa2 {α β : Type} (R : α → β → Prop) : List α → List β → Prop
  | nil : Fa2 R [] []
  | cons {a b as bs} : R a b → Fa2 R as bs → Fa2 R (a :: as) (b :: bs)
namespace Fa2
variable {α β : Type} {R : α → β → Prop}
theorem length : ∀ {as : List α} {bs : List β}, Fa2 R as bs → as.length = bs.length
  | _, _, .nil => rfl
  | _, _, .cons _ t => by simp [length t]
theorem mono {S : α → β → Prop} (f : ∀ a b, R a b → S a b) : ∀ {as : List α} {bs : List β}, Fa2 R as bs → Fa2 S as bs
  | _, _, .nil => .nil
  | _, _, .cons h t => .cons (f _ _ h) (mono f t)
theorem get : ∀ {as : List α} {bs : List β} {i : Nat} {b : β}, Fa2 R as bs → bs[i]? = some b → ∃ a, as[i]? = some a ∧ R a b
  | _, _, i, b, .nil, h => by simp at h
  | _, _, 0, b, .cons h t, e => by simp at e; subst e; exact ⟨_, rfl, h⟩
  | _, _, i + 1, b, .cons h t, e => by
    obtain ⟨a, h1, h2⟩ := get (i := i) (b := b) t (by simpa using e)
    exact ⟨a, by simpa using h1, h2⟩
theorem getL : ∀ {as : List α} {bs : List β} {i : Nat} {a : α}, Fa2 R as bs → as[i]? = some a → ∃ b, bs[i]? = some b ∧ R a b
  | _, _, i, b, .nil, h => by simp at h
  | _, _, 0, b, .cons h t, e => by simp at e; subst e; exact ⟨_, rfl, h⟩
  | _, _, i + 1, b, .cons h t, e => by
    obtain ⟨a, h1, h2⟩ := getL (i := i) (a := b) t (by simpa using e)
    exact ⟨a, by simpa using h1, h2⟩
theorem append : ∀ {as cs : List α} {bs ds : List β}, Fa2 R as bs → Fa2 R cs ds → Fa2 R (as ++ cs) (bs ++ ds)
  | _, _, _, _, .nil, h => h
  | _, _, _, _, .cons h t, q => .cons h (append t q)
theorem take : ∀ {as : List α} {bs : List β} (n : Nat), Fa2 R as bs → Fa2 R (as.take n) (bs.take n)
  | _, _, 0, _ => by simpa using .nil
  | _, _, n + 1, .nil => by simpa using .nil
  | _, _, n + 1, .cons h t => by simpa using .cons h (take n t)
theorem drop : ∀ {as : List α} {bs : List β} (n : Nat), Fa2 R as bs → Fa2 R (as.drop n) (bs.drop n)
  | _, _, 0, h => by simpa using h
  | _, _, n + 1, .nil => by simpa using .nil
  | _, _, n + 1, .cons h t => by simpa using drop n t
theorem set {a : α} {b : β} (h : R a b) : ∀ {as : List α} {bs : List β} (i : Nat), Fa2 R as bs → Fa2 R (as.set i a) (bs.set i b)
  | _, _, _, .nil => .nil
  | _, _, 0, .cons _ t => .cons h t
  | _, _, i + 1, .cons q t => .cons q (set h i t)
theorem eraseIdx : ∀ {as : List α} {bs : List β} (i : Nat), Fa2 R as bs → Fa2 R (as.eraseIdx i) (bs.eraseIdx i)
  | _, _, _, .nil => .nil
  | _, _, 0, .cons _ t => t
  | _, _, i + 1, .cons q t => .cons q (eraseIdx i t)
theorem dropLast : ∀ {as : List α} {bs : List β}, Fa2 R as bs → Fa2 R as.dropLast bs.dropLast
  | _, _, .nil => .nil
  | _, _, .cons _ .nil => .nil
  | _, _, .cons q (.cons h t) => .cons q (dropLast (.cons h t))
theorem map {γ δ : Type} {S : γ → δ → Prop} {f : α → γ} {g : β → δ} (k : ∀ a b, R a b → S (f a) (g b)) : ∀ {as : List α} {bs : List β}, Fa2 R as bs → Fa2 S (as.map f) (bs.map g)
  | _, _, .nil => .nil
  | _, _, .cons h t => .cons (k _ _ h) (map k t)
theorem of_map {γ δ : Type} {S : γ → δ → Prop} {f : γ → α} {g : δ → β} (k : ∀ a b, R (f a) (g b) → S a b) : ∀ {as : List γ} {bs : List δ}, Fa2 R (as.map f) (bs.map g) → Fa2 S as bs
  | [], [], _ => .nil
  | [], _ :: _, h => nomatch h
  | _ :: _, [], h => nomatch h
  | a :: as, b :: bs, .cons h t => .cons (k _ _ h) (of_map k t)
theorem reverse : ∀ {as : List α} {bs : List β}, Fa2 R as bs → Fa2 R as.reverse bs.reverse
  | _, _, .nil => .nil
  | _, _, .cons h t => by simpa using append (reverse t) (.cons h .nil)
end Fa2

/-! ### values and the abstract heap -/
def Fs (F F' : Hp) : Prop := ∀ a o, F a = some o → F' a = some o
theorem Fs.refl (F : Hp) : Fs F F := fun _ _ h => h
theorem Fs.trans {F F1 F2 : Hp} (a : Fs F F1) (b : Fs F1 F2) : Fs F F2 := fun x o h => b x o (a x o h)
theorem Fs.upd {F : Hp} {a : Addr} {o : HO} (h : F a = none) : Fs F (upd F a o) := fun b u e => by rw [upd_ne (ne_of_none e h)]; exact e
theorem Rd.mono {F F' : Hp} {a : Addr} {u : HO} (s : Fs F F') (h : Rd F a u) : Rd F' a u := by
  rcases h with h | ⟨o, h⟩
  · exact .inl (s _ _ h)
  · exact .inr ⟨o, s _ _ h⟩
theorem SqL.mono {K : PySem.W.Frag} {F F' : Hp} {a : Addr} {xs : List V} (s : Fs F F') (h : SqL K F a xs) : SqL K F' a xs := by
  rcases h with h | h
  · exact .inl (Rd.mono s h)
  · exact .inr h
theorem SqT.mono {K : PySem.W.Frag} {F F' : Hp} {a : Addr} {xs : List V} (s : Fs F F') (h : SqT K F a xs) : SqT K F' a xs := by
  rcases h with h | h
  · exact .inl (Rd.mono s h)
  · exact .inr h
mutual
theorem Dp.mono {K : PySem.W.Frag} {F F' : Hp} (s : Fs F F') : ∀ {v : V} {d : PyData}, Dp K F v d → Dp K F' v d
  | _, _, .non => .non
  | _, _, .bl b => .bl b
  | _, _, .int i => .int i
  | _, _, .str x => .str x
  | _, _, .lst h t => .lst (SqL.mono s h) (DpAll.mono s t)
  | _, _, .tup h t => .tup (SqT.mono s h) (DpAll.mono s t)
theorem DpAll.mono {K : PySem.W.Frag} {F F' : Hp} (s : Fs F F') : ∀ {vs : List V} {ds : List PyData}, DpAll K F vs ds → DpAll K F' vs ds
  | _, _, .nil => .nil
  | _, _, .cons h t => .cons (Dp.mono s h) (DpAll.mono s t)
end
/-- v is the value d -/
def DV (K : PySem.W.Frag) (F : Hp) (v : V) : D → Prop
  | .d x => Dp K F v x
  | .r a => v = .ref a
theorem DV.mono {K : PySem.W.Frag} {F F' : Hp} (s : Fs F F') {v : V} {d : D} (h : DV K F v d) : DV K F' v d := by
  cases d with
  | d x => exact Dp.mono s h
  | r a => exact h
abbrev DVs (K : PySem.W.Frag) (F : Hp) : List V → List D → Prop := Fa2 (DV K F)
theorem DVs.mono {K : PySem.W.Frag} {F F' : Hp} (s : Fs F F') {vs : List V} {ds : List D} (h : DVs K F vs ds) : DVs K F' vs ds := Fa2.mono (fun _ _ => DV.mono s) h
theorem DVs.of_all {K : PySem.W.Frag} {F : Hp} : ∀ {vs : List V} {ds : List PyData}, DpAll K F vs ds → DVs K F vs (ds.map D.d)
  | _, _, .nil => .nil
  | _, _, .cons h t => .cons h (DVs.of_all t)
theorem DVs.all {K : PySem.W.Frag} {F : Hp} : ∀ {vs : List V} {ds : List PyData}, DVs K F vs (ds.map D.d) → DpAll K F vs ds
  | _, [], .nil => .nil
  | _, _ :: _, .cons h t => .cons h (DVs.all t)

def MOk (K : PySem.W.Frag) (F : Hp) : MO → HO → Prop
  | .lst ds, .lst vs => DVs K F vs ds
  | .dct ks, .dK kv => Fa2 (fun p q => p.1 = q.1 ∧ DV K F p.2 q.2) kv ks
  | .dcT ks, .dT kv => Fa2 (fun p q => p.1 = q.1 ∧ DV K F p.2 q.2) kv ks
  | .ins C dx fs, .ins C' dx' fv => C' = C ∧ dx' = dx ∧ Fa2 (fun p q => p.1 = q.1 ∧ DV K F p.2 q.2) fv fs
  | _, _ => False
theorem MOk.mono {K : PySem.W.Frag} {F F' : Hp} (s : Fs F F') {o : MO} {u : HO} (h : MOk K F o u) : MOk K F' o u := by
  cases o <;> cases u <;> first | exact h.elim | exact DVs.mono s h | exact Fa2.mono (fun _ _ q => ⟨q.1, q.2.mono s⟩) h | exact ⟨h.1, h.2.1, Fa2.mono (fun _ _ q => ⟨q.1, q.2.mono s⟩) h.2.2⟩
/-- such an object may be written -/
theorem MOk.mut {K : PySem.W.Frag} {F : Hp} {o : MO} {u : HO} (h : MOk K F o u) : Mut (some u) := by
  cases o <;> cases u <;> first | exact h.elim | trivial

structure Rel0 (K : PySem.W.Frag) (m : MH) (F H : Hp) : Prop where
  sub : Fs F H
  obj : ∀ a o, m a = some o → F a = none ∧ ∃ u, H a = some u ∧ MOk K F o u
def joinM (m n : MH) : MH := fun a => match m a with | some o => some o | none => n a
theorem joinM_l {m n : MH} {a : Addr} {o : MO} (h : m a = some o) : joinM m n a = some o := by unfold joinM; rw [h]
theorem joinM_r {m n : MH} {a : Addr} (h : m a = none) : joinM m n a = n a := by unfold joinM; rw [h]
def Rel (K : PySem.W.Frag) (M : MS) (F H : Hp) : Prop := ∃ mh : MH, M.bx mh ∧ (∀ a, mh a ≠ none → M.m a = none) ∧ Rel0 K (joinM M.m mh) F H

section
variable {K : PySem.W.Frag} {M : MS} {F H : Hp} {a : Addr}
theorem Rel.sub (R : Rel K M F H) : Fs F H := let ⟨_, _, _, r⟩ := R; r.sub
theorem Rel.read (R : Rel K M F H) {o : MO} (h : M.m a = some o) : ∃ u, H a = some u ∧ MOk K F o u := let ⟨_, _, _, r⟩ := R; (r.obj a o (joinM_l h)).2
theorem Rel.free (R : Rel K M F H) (h : H a = none) : F a = none ∧ M.m a = none := by
  obtain ⟨mh, hb, hd, r⟩ := R
  refine ⟨?_, ?_⟩
  · cases e : F a with
    | none => rfl
    | some u => have := r.sub a u e; rw [h] at this; cases this
  · cases e : M.m a with
    | none => rfl
    | some o => obtain ⟨_, u, hu, _⟩ := r.obj a o (joinM_l e); rw [h] at hu; cases hu
theorem Rel.new (R : Rel K M F H) {o : MO} {u : HO} (h : H a = none) (k : MOk K F o u) : Rel K (M.put a o) F (upd H a u) := by
  obtain ⟨hf, hm⟩ := R.free h
  obtain ⟨mh, hb, hd, r⟩ := R
  have hma : mh a = none := by
    cases e : mh a with
    | none => rfl
    | some o => obtain ⟨_, u, hu, _⟩ := r.obj a o ((joinM_r hm).trans e); rw [h] at hu; cases hu
  refine ⟨mh, hb, fun b hn => ?_, r.sub.trans (Fs.upd h), fun b o' e => ?_⟩
  · by_cases hba : b = a
    · subst hba; exact absurd hma hn
    · rw [MS.put_ne hba]; exact hd b hn
  · by_cases hba : b = a
    · subst hba
      have e2 : joinM (M.put b o).m mh b = some o := joinM_l MS.put_same
      rw [e2] at e; cases e
      exact ⟨hf, u, upd_same, k⟩
    · have e2 : joinM M.m mh b = some o' := by
        unfold joinM at e ⊢
        rw [MS.put_ne hba] at e; exact e
      obtain ⟨q1, v, q2, q3⟩ := r.obj b o' e2
      exact ⟨q1, v, by rw [upd_ne hba]; exact q2, q3⟩
theorem Rel.write (R : Rel K M F H) {o o' : MO} {u : HO} (h : M.m a = some o) (k : MOk K F o' u) : Rel K (M.put a o') F (upd H a u) := by
  obtain ⟨mh, hb, hd, r⟩ := R
  have hf := (r.obj a o (joinM_l h)).1
  refine ⟨mh, hb, fun b hn => ?_, fun b v e => ?_, fun b o2 e => ?_⟩
  · by_cases hba : b = a
    · subst hba; have := hd b hn; rw [h] at this; cases this
    · rw [MS.put_ne hba]; exact hd b hn
  · by_cases hba : b = a
    · subst hba; rw [hf] at e; cases e
    · rw [upd_ne hba]; exact r.sub b v e
  · by_cases hba : b = a
    · subst hba
      have e2 : joinM (M.put b o').m mh b = some o' := joinM_l MS.put_same
      rw [e2] at e; cases e
      exact ⟨hf, u, upd_same, k⟩
    · have e2 : joinM M.m mh b = some o2 := by
        unfold joinM at e ⊢
        rw [MS.put_ne hba] at e; exact e
      obtain ⟨q1, v, q2, q3⟩ := r.obj b o2 e2
      exact ⟨q1, v, by rw [upd_ne hba]; exact q2, q3⟩
/-- a new thing that never changes -/
theorem Rel.grow (R : Rel K M F H) {u : HO} (h : H a = none) : Fs F (upd F a u) ∧ Rel K M (upd F a u) (upd H a u) := by
  obtain ⟨hf, hm⟩ := R.free h
  obtain ⟨mh, hb, hd, r⟩ := R
  refine ⟨Fs.upd hf, mh, hb, hd, fun b v e => ?_, fun b o e => ?_⟩
  · by_cases hba : b = a
    · subst hba; rw [upd_same] at e ⊢; exact e
    · rw [upd_ne hba] at e ⊢; exact r.sub b v e
  · obtain ⟨q1, v, q2, q3⟩ := r.obj b o e
    have hba : b ≠ a := by rintro rfl; rw [h] at q2; cases q2
    exact ⟨by rw [upd_ne hba]; exact q1, v, by rw [upd_ne hba]; exact q2, q3.mono (Fs.upd hf)⟩
/-- untracked by us: a new thing nobody speaks of -/
theorem Rel.skip (R : Rel K M F H) {u : HO} (h : H a = none) : Rel K M F (upd H a u) := by
  obtain ⟨mh, hb, hd, r⟩ := R
  refine ⟨mh, hb, hd, r.sub.trans (Fs.upd h), fun b o e => ?_⟩
  obtain ⟨q1, v, q2, q3⟩ := r.obj b o e
  have hba : b ≠ a := by rintro rfl; rw [h] at q2; cases q2
  exact ⟨q1, v, by rw [upd_ne hba]; exact q2, q3⟩
theorem Rel.drop (R : Rel K M F H) : Rel K (M.del a) F H := by
  obtain ⟨mh, hb, hd, r⟩ := R
  by_cases hma : mh a = none
  · refine ⟨mh, hb, fun b hn => ?_, r.sub, fun b o e => ?_⟩
    · by_cases hba : b = a
      · subst hba; exact MS.del_same
      · rw [MS.del_ne hba]; exact hd b hn
    · by_cases hba : b = a
      · subst hba
        have e2 : joinM (M.del b).m mh b = mh b := joinM_r MS.del_same
        rw [e2, hma] at e; cases e
      · have e2 : joinM M.m mh b = some o := by
          unfold joinM at e ⊢
          rw [MS.del_ne hba] at e; exact e
        exact r.obj b o e2
  · have e : M.del a = M := by
      cases M
      simp only [MS.del, MS.mk.injEq, and_true]
      funext b
      split
      · rename_i e; subst e; exact (hd _ hma).symm
      · rfl
    rw [e]
    exact ⟨mh, hb, hd, r⟩
/-- a list that will not change any more is data -/
theorem Rel.freeze (R : Rel K M F H) {ds : List PyData} (h : M.m a = some (.lst (ds.map D.d))) : ∃ F', Fs F F' ∧ Rel K (M.del a) F' H ∧ Dp K F' (.ref a) (.list ds) := by
  obtain ⟨u, hu, k⟩ := R.read h
  obtain ⟨mh, hb, hd, r⟩ := id R
  have hf := (r.obj a _ (joinM_l h)).1
  cases u with
  | lst vs =>
    have k' : DVs K F vs (ds.map D.d) := k
    have s : Fs F (upd F a (.lst vs)) := Fs.upd hf
    have hma : mh a = none := by
      cases e : mh a with
      | none => rfl
      | some o => have := hd a (by rw [e]; simp); rw [h] at this; cases this
    refine ⟨upd F a (.lst vs), s, ⟨mh, hb, fun b hn => ?_, fun b v e => ?_, fun b o e => ?_⟩, .lst (SqL.of upd_same) (DpAll.mono s k'.all)⟩
    · by_cases hba : b = a
      · subst hba; exact MS.del_same
      · rw [MS.del_ne hba]; exact hd b hn
    · by_cases hba : b = a
      · subst hba; rw [upd_same] at e; cases e; exact hu
      · rw [upd_ne hba] at e; exact r.sub b v e
    · have hba : b ≠ a := by
        rintro rfl
        have e2 : joinM (M.del b).m mh b = mh b := joinM_r MS.del_same
        rw [e2, hma] at e; cases e
      have e2 : joinM M.m mh b = some o := by
        unfold joinM at e ⊢
        rw [MS.del_ne hba] at e; exact e
      obtain ⟨q1, v, q2, q3⟩ := r.obj b o e2
      exact ⟨by rw [upd_ne hba]; exact q1, v, q2, q3.mono s⟩
  | _ => exact k.elim
/-- the words about the state may be weakened -/
theorem Rel.le (R : Rel K M F H) {M' : MS} (l : M'.le M) : Rel K M' F H := by
  obtain ⟨mh, hb, hd, r⟩ := R
  refine ⟨mh, by rw [← l.bx]; exact hb, fun b hn => ?_, r.sub, fun b o e => ?_⟩
  · cases e : M'.m b with
    | none => rfl
    | some o => have := l.m b o e; rw [hd b hn] at this; cases this
  · cases e1 : M'.m b with
    | some o1 =>
      have e2 : joinM M'.m mh b = some o1 := joinM_l e1
      rw [e2] at e; cases e
      exact r.obj b o (joinM_l (l.m b o e1))
    | none =>
      have e2 : joinM M'.m mh b = mh b := joinM_r e1
      rw [e2] at e
      refine r.obj b o ?_
      rw [joinM_r (hd b (by rw [e]; simp))]; exact e
/-- what is hidden comes to sight -/
theorem Rel.open (R : Rel K M F H) : ∃ mh, M.bx mh ∧ (∀ a, mh a ≠ none → M.m a = none) ∧ Rel K ⟨joinM M.m mh, fun n => n = fun _ => none⟩ F H := by
  obtain ⟨mh, hb, hd, r⟩ := R
  refine ⟨mh, hb, hd, fun _ => none, rfl, fun _ h => absurd rfl h, ?_⟩
  have e : joinM (joinM M.m mh) (fun _ => none) = joinM M.m mh := by
    funext a; unfold joinM; cases M.m a <;> simp <;> cases mh a <;> rfl
  rw [e]; exact r
theorem Rel.close {m mh : MH} {bx : MH → Prop} (R : Rel K ⟨joinM m mh, fun n => n = fun _ => none⟩ F H) (hb : bx mh) (hd : ∀ a, mh a ≠ none → m a = none) : Rel K ⟨m, bx⟩ F H := by
  obtain ⟨n, hn, _, r⟩ := R
  have hn' : n = fun _ => none := hn
  subst hn'
  refine ⟨mh, hb, hd, ?_⟩
  have e : joinM (joinM m mh) (fun _ => none) = joinM m mh := by
    funext a; unfold joinM; cases m a <;> simp <;> cases mh a <;> rfl
  have r' : Rel0 K (joinM (joinM m mh) fun _ => none) F H := r
  rw [e] at r'; exact r'
end

/-! ### names -/
abbrev Rho := List (Str × Option D)
def lk : Rho → Str → Option D
  | [], _ => none
  | (y, v) :: r, x => if y = x then v else lk r x
def st : Rho → Str → Option D → Rho
  | [], _, _ => []
  | (y, v) :: r, x, d => if y = x then (y, d) :: r else (y, v) :: st r x d
/-- the slots hold the values -/
inductive Sg (K : PySem.W.Frag) (F : Hp) : Rho → List (Option V) → Prop
  | nil : Sg K F [] []
  | non {x r σ o} : Sg K F r σ → Sg K F ((x, none) :: r) (o :: σ)
  | som {x d v r σ} : DV K F v d → Sg K F r σ → Sg K F ((x, some d) :: r) (some v :: σ)
section
variable {K : PySem.W.Frag} {F F' : Hp}
theorem Sg.mono (s : Fs F F') : ∀ {r : Rho} {σ : List (Option V)}, Sg K F r σ → Sg K F' r σ
  | _, _, .nil => .nil
  | _, _, .non h => .non (Sg.mono s h)
  | _, _, .som h t => .som (h.mono s) (Sg.mono s t)
theorem Sg.look {x : Str} {d : D} : ∀ {r : Rho} {σ : List (Option V)}, Sg K F r σ → lk r x = some d → ∃ (i : Nat) (v : V), (r.map (·.1))[i]? = some x ∧ σ[i]? = some (some v) ∧ DV K F v d
  | _, _, .nil, h => by simp [lk] at h
  | _, _, .non (x := y) t, h => by
    unfold lk at h
    split at h
    · cases h
    · obtain ⟨i, v, h1, h2, h3⟩ := Sg.look t h
      exact ⟨i + 1, v, by simpa using h1, by simpa using h2, h3⟩
  | _, _, .som (x := y) (v := v) q t, h => by
    unfold lk at h
    split at h
    · rename_i e; cases h; subst e; exact ⟨0, v, rfl, rfl, q⟩
    · obtain ⟨i, v, h1, h2, h3⟩ := Sg.look t h
      exact ⟨i + 1, v, by simpa using h1, by simpa using h2, h3⟩
theorem st_names : ∀ (r : Rho) (x : Str) (d : Option D), (st r x d).map (·.1) = r.map (·.1)
  | [], _, _ => rfl
  | (y, v) :: r, x, d => by
    unfold st
    split
    · rfl
    · simp [st_names r x d]
theorem Sg.set {x : Str} {d : D} {v : V} (q : DV K F v d) : ∀ {r : Rho} {σ : List (Option V)} {i : Nat}, Sg K F r σ → (r.map (·.1)).Nodup → (r.map (·.1))[i]? = some x → Sg K F (st r x (some d)) (σ.set i (some v))
  | _, _, _, .nil, _, h => by simp at h
  | (y, _) :: r, o :: σ, 0, h, nd, e => by
    have e' : y = x := by simpa using e
    subst e'
    unfold st
    rw [if_pos rfl]
    cases h with
    | non t => exact .som q t
    | som _ t => exact .som q t
  | (y, _) :: r, o :: σ, i + 1, h, nd, e => by
    have e' : (r.map (·.1))[i]? = some x := by simpa using e
    have nd' := (List.nodup_cons.mp nd)
    have hy : y ≠ x := by
      rintro rfl
      exact nd'.1 (List.mem_of_getElem? e')
    unfold st
    rw [if_neg hy]
    cases h with
    | non t => exact .non (Sg.set q t nd'.2 e')
    | som p t => exact .som p (Sg.set q t nd'.2 e')
theorem Sg.unset {x : Str} : ∀ {r : Rho} {σ : List (Option V)} {i : Nat}, Sg K F r σ → (r.map (·.1)).Nodup → (r.map (·.1))[i]? = some x → Sg K F (st r x none) (σ.set i none)
  | _, _, _, .nil, _, h => by simp at h
  | (y, _) :: r, o :: σ, 0, h, nd, e => by
    have e' : y = x := by simpa using e
    subst e'
    unfold st
    rw [if_pos rfl]
    cases h with
    | non t => exact .non t
    | som _ t => exact .non t
  | (y, _) :: r, o :: σ, i + 1, h, nd, e => by
    have e' : (r.map (·.1))[i]? = some x := by simpa using e
    have nd' := (List.nodup_cons.mp nd)
    have hy : y ≠ x := by
      rintro rfl
      exact nd'.1 (List.mem_of_getElem? e')
    unfold st
    rw [if_neg hy]
    cases h with
    | non t => exact .non (Sg.unset t nd'.2 e')
    | som p t => exact .som p (Sg.unset t nd'.2 e')
theorem Sg.len : ∀ {r : Rho} {σ : List (Option V)}, Sg K F r σ → r.length = σ.length
  | _, _, .nil => rfl
  | _, _, .non t => by simp [Sg.len t]
  | _, _, .som _ t => by simp [Sg.len t]
end
end Y

/-! Layer Y, part B: the judgements and the rules of the language's forms. -/
namespace Y
open PySem PySem.Spec PyProof.Rows L2

/-! ### the bare semantics as readings -/
section
variable (X : Cx)
def tse (e : Expr) : TE := fun σ H Q => ∀ pins s, Inv X pins σ H s → wpAny (model X.prog X.w) X.A (eval e X.env) (EP X pins σ Q) X.xe s
def tst (e : Expr) : TT := fun σ H Q => ∀ pins s, Inv X pins σ H s → wpAny (model X.prog X.w) X.A (isTrue e X.env (eval e X.env)) (TP X pins σ Q) X.xe s
def tsw (e : Expr) : TT := fun σ H Q => ∀ whole pins s, Inv X pins σ H s → wpAny (model X.prog X.w) X.A (isTrue e X.env whole) (TP X pins σ Q) X.xe s
def tsa (es : List Expr) : TA := fun σ H Q => ∀ pos pins s, Inv X pins σ H s → wpAny (model X.prog X.w) X.A (spliced (backTo pos (starEach es X.env))) (AP X pins σ Q) X.xe s
def tso (e : Option Expr) : TO := fun σ H Q => ∀ pins s, Inv X pins σ H s → wpAny (model X.prog X.w) X.A (evalPart e X.env) (fun u s' => ∃ o H', Inv X pins σ H' s' ∧ IsPart u o ∧ Q o H') X.xe s
def tss (st : Stmt) : TS := fun D σ H => ∀ pins s, Inv X pins σ H s → wpAny (model X.prog X.w) X.A (exec st X.env) (SP X pins D) X.xe s
def tsl (st : List Stmt) : TS := fun D σ H => ∀ pins s, Inv X pins σ H s → wpAny (model X.prog X.w) X.A (execs st X.env) (SP X pins D) X.xe s
def tsg (tg : Expr) : TG := fun v σ H Q => ∀ pins s u, Inv X pins σ H s → RelV v u → wpAny (model X.prog X.w) X.A (assign tg X.env u) (fun _ s' => ∃ σ' H', Inv X pins σ' H' s' ∧ Q σ' H') X.xe s
def tsi (tg iter : Expr) : TI := fun σ H R => ∀ pins s, Inv X pins σ H s → wpAny (model X.prog X.w) X.A (eval iter X.env) (fun v s1 => wpAny (model X.prog X.w) X.A (pyIter v) (PIE X pins σ tg R) X.xe s1) X.xe s
def rse (f : Value → Value → Sem Value) : R2 := fun x y H Q => ∀ pins s σ v u, Inv X pins σ H s → RelV x v → RelV y u → wpAny (model X.prog X.w) X.A (f v u) (EP X pins σ Q) X.xe s
def cse (f : Value) : List V → Hp → VK → Prop := fun xs H Q => ∀ pins s σ us, Inv X pins σ H s → Vals xs us → wpAny (model X.prog X.w) X.A (call f us) (EP X pins σ Q) X.xe s
def mse (id : String) : V → List V → Hp → VK → Prop := fun x xs H Q => ∀ pins s σ v us, Inv X pins σ H s → RelV x v → Vals xs us → wpAny (model X.prog X.w) X.A (call (.builtin id) (v :: us)) (EP X pins σ Q) X.xe s
end
section
variable {X : Cx}
theorem pe_s {e : Expr} : PE X e (tse X e) := ⟨fun pins s _ _ _ I h => h pins s I⟩
theorem pt_s {e : Expr} : PT X e (tst X e) := ⟨fun pins s _ _ _ I h => h pins s I⟩
theorem pw_s {e : Expr} : PW X e (tsw X e) := ⟨fun w pins s _ _ _ I h => h w pins s I⟩
theorem pa_s {es : List Expr} : PA X es (tsa X es) := ⟨fun pos pins s _ _ _ I h => h pos pins s I⟩
theorem po_s {e : Option Expr} : PO X e (tso X e) := ⟨fun pins s _ _ _ I h => h pins s I⟩
theorem ps_s {st : Stmt} : PS X st (tss X st) := ⟨fun pins s _ _ _ I h => h pins s I⟩
theorem pss_s {st : List Stmt} : PSs X st (tsl X st) := ⟨fun pins s _ _ _ I h => h pins s I⟩
theorem pg_s {tg : Expr} : PG X tg (tsg X tg) := ⟨fun pins s _ _ _ u _ I r h => h pins s u I r⟩
theorem pi_s {tg iter : Expr} : PI X tg iter (tsi X tg iter) := ⟨fun pins s _ _ _ I h => h pins s I⟩
theorem op_s {f : Value → Value → Sem Value} : OpR X f (rse X f) := fun pins s σ _ _ _ v u _ I r1 r2 h => h pins s σ v u I r1 r2
theorem call_s {f : Value} : CallR X f (cse X f) := fun pins s σ _ _ us _ I r h => h pins s σ us I r
theorem mt_s {id : String} : MtR X id (mse X id) := fun pins s σ _ _ _ v us _ I r1 r2 h => h pins s σ v us I r1 r2
theorem PE.se {e : Expr} {t : TE} (h : PE X e t) {σ : L2.St} {H : Hp} {Q : VK} (q : t σ H Q) : tse X e σ H Q := fun pins s I => h.run pins s σ H Q I q
theorem PT.se {e : Expr} {t : TT} (h : PT X e t) {σ : L2.St} {H : Hp} {Q : Bool → Hp → Prop} (q : t σ H Q) : tst X e σ H Q := fun pins s I => h.run pins s σ H Q I q
theorem PW.se {e : Expr} {t : TT} (h : PW X e t) {σ : L2.St} {H : Hp} {Q : Bool → Hp → Prop} (q : t σ H Q) : tsw X e σ H Q := fun w pins s I => h.run w pins s σ H Q I q
theorem PA.se {es : List Expr} {t : TA} (h : PA X es t) {σ : L2.St} {H : Hp} {Q : List V → Hp → Prop} (q : t σ H Q) : tsa X es σ H Q := fun pos pins s I => h.run pos pins s σ H Q I q
theorem PO.se {e : Option Expr} {t : TO} (h : PO X e t) {σ : L2.St} {H : Hp} {Q : Option Int → Hp → Prop} (q : t σ H Q) : tso X e σ H Q := fun pins s I => h.run pins s σ H Q I q
theorem PS.se {st : Stmt} {t : TS} (h : PS X st t) {σ : L2.St} {H : Hp} {D : Ends} (q : t D σ H) : tss X st D σ H := fun pins s I => h.run pins s σ H D I q
theorem PSs.se {st : List Stmt} {t : TS} (h : PSs X st t) {σ : L2.St} {H : Hp} {D : Ends} (q : t D σ H) : tsl X st D σ H := fun pins s I => h.run pins s σ H D I q
theorem PG.se {tg : Expr} {t : TG} (h : PG X tg t) {v : V} {σ : L2.St} {H : Hp} {Q : L2.St → Hp → Prop} (q : t v σ H Q) : tsg X tg v σ H Q := fun pins s u I r => h.run pins s σ H v u Q I r q
theorem PI.se {tg iter : Expr} {t : TI} (h : PI X tg iter t) {σ : L2.St} {H : Hp} {R : It → Hp → Prop} (q : t σ H R) : tsi X tg iter σ H R := fun pins s I => h.run pins s σ H R I q
theorem OpR.se {f : Value → Value → Sem Value} {r : R2} (h : OpR X f r) {x y : V} {H : Hp} {Q : VK} (q : r x y H Q) : rse X f x y H Q := fun pins s σ v u I r1 r2 => h pins s σ H x y v u Q I r1 r2 q
theorem CallR.se {f : Value} {r : List V → Hp → VK → Prop} (h : CallR X f r) {xs : List V} {H : Hp} {Q : VK} (q : r xs H Q) : cse X f xs H Q := fun pins s σ us I rs => h pins s σ H xs us Q I rs q
theorem MtR.se {id : String} {r : V → List V → Hp → VK → Prop} (h : MtR X id r) {x : V} {xs : List V} {H : Hp} {Q : VK} (q : r x xs H Q) : mse X id x xs H Q := fun pins s σ v us I r1 rs => h pins s σ H x xs v us Q I r1 rs q
theorem tse_mono {e : Expr} {σ : L2.St} {H : Hp} {Q Q' : VK} (h : tse X e σ H Q) (k : ∀ v H', Q v H' → Q' v H') : tse X e σ H Q' := fun pins s I => thn (h pins s I) fun _ _ ⟨v, H', I', r, q⟩ => ⟨v, H', I', r, k _ _ q⟩
theorem tst_mono {e : Expr} {σ : L2.St} {H : Hp} {Q Q' : Bool → Hp → Prop} (h : tst X e σ H Q) (k : ∀ v H', Q v H' → Q' v H') : tst X e σ H Q' := fun pins s I => thn (h pins s I) fun _ _ ⟨H', I', q⟩ => ⟨H', I', k _ _ q⟩
theorem tsw_mono {e : Expr} {σ : L2.St} {H : Hp} {Q Q' : Bool → Hp → Prop} (h : tsw X e σ H Q) (k : ∀ v H', Q v H' → Q' v H') : tsw X e σ H Q' := fun w pins s I => thn (h w pins s I) fun _ _ ⟨H', I', q⟩ => ⟨H', I', k _ _ q⟩
theorem tsa_mono {es : List Expr} {σ : L2.St} {H : Hp} {Q Q' : List V → Hp → Prop} (h : tsa X es σ H Q) (k : ∀ v H', Q v H' → Q' v H') : tsa X es σ H Q' := fun pos pins s I => thn (h pos pins s I) fun _ _ ⟨v, H', I', r, q⟩ => ⟨v, H', I', r, k _ _ q⟩
theorem tso_mono {e : Option Expr} {σ : L2.St} {H : Hp} {Q Q' : Option Int → Hp → Prop} (h : tso X e σ H Q) (k : ∀ v H', Q v H' → Q' v H') : tso X e σ H Q' := fun pins s I => thn (h pins s I) fun _ _ ⟨v, H', I', r, q⟩ => ⟨v, H', I', r, k _ _ q⟩
theorem tsi_mono {tg e : Expr} {σ : L2.St} {H : Hp} {Q Q' : It → Hp → Prop} (h : tsi X tg e σ H Q) (k : ∀ v H', Q v H' → Q' v H') : tsi X tg e σ H Q' := fun pins s I => thn (h pins s I) fun _ _ q => thn q fun _ _ ⟨it, fp, tn, J, H', a, b, c, d, e, f⟩ => ⟨it, fp, tn, J, H', a, b, c, d, e, k _ _ f⟩
theorem tsg_mono {tg : Expr} {v : V} {σ : L2.St} {H : Hp} {Q Q' : L2.St → Hp → Prop} (h : tsg X tg v σ H Q) (k : ∀ v H', Q v H' → Q' v H') : tsg X tg v σ H Q' := fun pins s u I r => thn (h pins s u I r) fun _ _ ⟨σ', H', I', q⟩ => ⟨σ', H', I', k _ _ q⟩
structure EndsLe (D D' : Ends) : Prop where
  nx : ∀ σ H, D.nx σ H → D'.nx σ H
  rt : ∀ v H, D.rt v H → D'.rt v H
  bk : ∀ σ H, D.bk σ H → D'.bk σ H
  ct : ∀ σ H, D.ct σ H → D'.ct σ H
theorem SP.mono {pins : List (Addr × Obj)} {D D' : Ends} (l : EndsLe D D') {f : Flow} {s : Shared} (h : SP X pins D f s) : SP X pins D' f s := by
  cases f with
  | next => obtain ⟨σ, H, I, q⟩ := h; exact ⟨σ, H, I, l.nx _ _ q⟩
  | brk => obtain ⟨σ, H, I, q⟩ := h; exact ⟨σ, H, I, l.bk _ _ q⟩
  | cont => obtain ⟨σ, H, I, q⟩ := h; exact ⟨σ, H, I, l.ct _ _ q⟩
  | ret u => obtain ⟨v, σ, H, I, r, q⟩ := h; exact ⟨v, σ, H, I, r, l.rt _ _ q⟩
theorem tss_mono {st : Stmt} {σ : L2.St} {H : Hp} {D D' : Ends} (h : tss X st D σ H) (k : EndsLe D D') : tss X st D' σ H := fun pins s I => thn (h pins s I) fun _ _ q => SP.mono k q
theorem tsl_mono {st : List Stmt} {σ : L2.St} {H : Hp} {D D' : Ends} (h : tsl X st D σ H) (k : EndsLe D D') : tsl X st D' σ H := fun pins s I => thn (h pins s I) fun _ _ q => SP.mono k q
theorem rse_mono {f : Value → Value → Sem Value} {x y : V} {H : Hp} {Q Q' : VK} (h : rse X f x y H Q) (k : ∀ v H', Q v H' → Q' v H') : rse X f x y H Q' := fun pins s σ v u I r1 r2 => thn (h pins s σ v u I r1 r2) fun _ _ ⟨v, H', I', r, q⟩ => ⟨v, H', I', r, k _ _ q⟩
theorem cse_mono {f : Value} {xs : List V} {H : Hp} {Q Q' : VK} (h : cse X f xs H Q) (k : ∀ v H', Q v H' → Q' v H') : cse X f xs H Q' := fun pins s σ us I r1 => thn (h pins s σ us I r1) fun _ _ ⟨v, H', I', r, q⟩ => ⟨v, H', I', r, k _ _ q⟩
end

/-! ### contexts -/
abbrev XD := Value → List (Str × D) → MS → Prop
abbrev XR := Value → List (Str × D) → Rho → MS → Prop
def ExV (K : PySem.W.Frag) (F : Hp) (d : Option Addr) (fs : List (Str × D)) : Prop :=
  match d with
  | none => fs = []
  | some a => ∃ fv, F a = some (.xd fv) ∧ Fa2 (fun p q => p.1 = q.1 ∧ DV K F p.2 q.2) fv fs
theorem ExV.mono {K : PySem.W.Frag} {F F' : Hp} {d : Option Addr} {fs : List (Str × D)} (s : Fs F F') (h : ExV K F d fs) : ExV K F' d fs := by
  cases d with
  | none => exact h
  | some a => obtain ⟨fv, h1, h2⟩ := h; exact ⟨fv, s _ _ h1, h2.mono fun _ _ z => ⟨z.1, z.2.mono s⟩⟩
def LE (K : PySem.W.Frag) (F0 : Hp) (E : XD) : XK := fun cls d H => ∃ M F' fs, Fs F0 F' ∧ Rel K M F' H ∧ ExV K F' d fs ∧ E cls fs M
theorem LE.back {K : PySem.W.Frag} {F F' : Hp} {E : XD} (s : Fs F F') {cls : Value} {d : Option Addr} {H : Hp} (h : LE K F' E cls d H) : LE K F E cls d H := let ⟨M, F2, fs, a, b, c, e⟩ := h; ⟨M, F2, fs, s.trans a, b, c, e⟩

/-- .. with the names where it was raised -/
def LEs (N : List Str) (K : PySem.W.Frag) (F0 : Hp) (E : XR) : WX := fun cls d σ H => ∃ ρ M F' fs, Fs F0 F' ∧ ρ.map (·.1) = N ∧ Sg K F' ρ σ ∧ Rel K M F' H ∧ ExV K F' d fs ∧ E cls fs ρ M
theorem LEs.back {N : List Str} {K : PySem.W.Frag} {F F' : Hp} {E : XR} (s : Fs F F') {cls : Value} {d : Option Addr} {σ : L2.St} {H : Hp} (h : LEs N K F' E cls d σ H) : LEs N K F E cls d σ H := let ⟨ρ, M, F2, fs, a, b, c, e, f, g⟩ := h; ⟨ρ, M, F2, fs, s.trans a, b, c, e, f, g⟩

structure GD where
  P : Program
  w : World
  K : PySem.W.Frag
  mg : Str → Option Value
  base : Heap
structure Ct where
  g : GD
  sc : Scope
  N : List Str
  k : Nat
  calm : Bool
  fnc : Bool
  E : XR
  hot : Option (Addr × Value × List (Str × D)) := none
/-- a caught exception is at hand -/
def HotOk (h : Option (Addr × Value × List (Str × D))) (X : Cx) (F : Hp) : Prop := match h with
  | none => True
  | some (a, cls, fs) => ∃ (X0 : Cx) (oe : Obj) (pn : List (Addr × Obj)) (d : Option Addr), X = X0.suite a ((a, oe) :: pn) ∧ Zc cls d oe ∧ (∃ vs, oe.data = .fields vs) ∧ ExV X.K F d fs
theorem HotOk.mono {h : Option (Addr × Value × List (Str × D))} {X : Cx} {F F' : Hp} (s : Fs F F') (k : HotOk h X F) : HotOk h X F' := by
  cases h with
  | none => trivial
  | some p => obtain ⟨X0, oe, pn, d, h1, h2, h3, h4⟩ := k; exact ⟨X0, oe, pn, d, h1, h2, h3, h4.mono s⟩
def visB (sc : Scope) (x : Str) : Bool := (match sc.names.lookup x with | some .local => true | some .cell => true | some .free => true | _ => false) && !(x == ("__debug__" : Str)) && !(x == ("__classdict__" : Str))
def locB (sc : Scope) (fnc : Bool) (x : Str) : Bool := match sc.names.lookup x with | some .local => true | some .cell => fnc | _ => false
def glB (sc : Scope) (x : Str) : Bool := (match sc.names.lookup x with | some .globalImplicit => true | _ => false) && !(x == ("__debug__" : Str)) && !(x == ("__name__" : Str))
theorem visB.ok {sc : Scope} {x : Str} (h : visB sc x = true) : Vis sc x ∧ (x == ("__debug__" : Str)) = false ∧ (x == ("__classdict__" : Str)) = false := by
  unfold visB at h
  simp only [Bool.and_eq_true, Bool.not_eq_true'] at h
  obtain ⟨⟨h1, h2⟩, h3⟩ := h
  refine ⟨?_, h2, h3⟩
  split at h1
  · exact .inl (by assumption)
  · exact .inr (.inl (by assumption))
  · exact .inr (.inr (by assumption))
  · cases h1
theorem locB.ok {sc : Scope} {fnc : Bool} {x : Str} (h : locB sc fnc x = true) : Loc sc x ∧ (fnc = true ∨ sc.names.lookup x = some .local) := by
  unfold locB at h
  split at h
  · exact ⟨.inl (by assumption), .inr (by assumption)⟩
  · exact ⟨.inr (by assumption), .inl h⟩
  · cases h
theorem glB.ok {sc : Scope} {x : Str} (h : glB sc x = true) : sc.names.lookup x = some .globalImplicit ∧ (x == ("__debug__" : Str)) = false ∧ x ≠ "__name__" := by
  unfold glB at h
  simp only [Bool.and_eq_true, Bool.not_eq_true'] at h
  obtain ⟨⟨h1, h2⟩, h3⟩ := h
  refine ⟨?_, h2, ?_⟩
  · split at h1
    · assumption
    · cases h1
  · rintro rfl; exact absurd h3 (by decide +kernel)

structure CtOk (C : Ct) (X : Cx) (F : Hp) : Prop where
  P : X.prog = C.g.P
  w : X.w = C.g.w
  K : X.K = C.g.K
  mg : X.mg = C.g.mg
  base : X.base = C.g.base
  sc : X.env.scope = C.sc
  N : X.N = C.N
  nd : C.N.Nodup
  calm : X.calm = C.calm
  room : C.calm = true → Room C.k X.A
  fn : C.fnc = true → ∀ x, X.fn x = true
  pass : PassesOwn (model X.prog X.w) X.A X.env X.xe
  takes : Takes X (LEs C.N X.K F C.E)
  stk : C.fnc = true → X.stack = X.env :: X.outer ∧ X.env.frame = some X.env.locals
  hot : HotOk C.hot X F
theorem CtOk.loc {C : Ct} {X : Cx} {F : Hp} (k : CtOk C X F) {x : Str} (h : locB C.sc C.fnc x = true) : Loc X.env.scope x ∧ (X.fn x = true ∨ X.env.scope.names.lookup x = some .local) := by
  obtain ⟨h1, h2⟩ := locB.ok h
  rw [k.sc]
  exact ⟨h1, h2.imp (fun z => k.fn z x) id⟩
/-- where one stands -/
structure At (C : Ct) (ρ : Rho) (M : MS) (X : Cx) (F : Hp) (σ : L2.St) (H : Hp) : Prop where
  ok : CtOk C X F
  nm : ρ.map (·.1) = C.N
  sg : Sg X.K F ρ σ
  rel : Rel X.K M F H
theorem CtOk.mono {C : Ct} {X : Cx} {F F' : Hp} (k : CtOk C X F) (s : Fs F F') : CtOk C X F' :=
  ⟨k.P, k.w, k.K, k.mg, k.base, k.sc, k.N, k.nd, k.calm, k.room, k.fn, k.pass, k.takes.imp fun _ _ _ _ h => h.back s, k.stk, k.hot.mono s⟩
theorem At.to {C : Ct} {ρ : Rho} {M M' : MS} {X : Cx} {F F' : Hp} {σ : L2.St} {H H' : Hp} (a : At C ρ M X F σ H) (s : Fs F F') (r : Rel X.K M' F' H') : At C ρ M' X F' σ H' := ⟨a.ok.mono s, a.nm, a.sg.mono s, r⟩

def Up (K : PySem.W.Frag) (F : Hp) (Q : D → MS → Prop) : VK := fun v H' => ∃ d M' F', Fs F F' ∧ Rel K M' F' H' ∧ DV K F' v d ∧ Q d M'
def UpB (K : PySem.W.Frag) (F : Hp) (Q : Bool → MS → Prop) : Bool → Hp → Prop := fun b H' => ∃ M' F', Fs F F' ∧ Rel K M' F' H' ∧ Q b M'
def UpA (K : PySem.W.Frag) (F : Hp) (Q : List D → MS → Prop) : List V → Hp → Prop := fun vs H' => ∃ ds M' F', Fs F F' ∧ Rel K M' F' H' ∧ DVs K F' vs ds ∧ Q ds M'
def UpO (K : PySem.W.Frag) (F : Hp) (Q : Option Int → MS → Prop) : Option Int → Hp → Prop := fun o H' => ∃ M' F', Fs F F' ∧ Rel K M' F' H' ∧ Q o M'
def UpS (N : List Str) (K : PySem.W.Frag) (F : Hp) (Q : Rho → MS → Prop) : L2.St → Hp → Prop := fun σ' H' => ∃ ρ' M' F', Fs F F' ∧ ρ'.map (·.1) = N ∧ Sg K F' ρ' σ' ∧ Rel K M' F' H' ∧ Q ρ' M'
theorem Up.back {K : PySem.W.Frag} {F F' : Hp} (s : Fs F F') {Q : D → MS → Prop} {v : V} {H : Hp} (h : Up K F' Q v H) : Up K F Q v H := let ⟨d, M, F2, a, b⟩ := h; ⟨d, M, F2, s.trans a, b⟩
theorem UpB.back {K : PySem.W.Frag} {F F' : Hp} (s : Fs F F') {Q : Bool → MS → Prop} {v : Bool} {H : Hp} (h : UpB K F' Q v H) : UpB K F Q v H := let ⟨M, F2, a, b⟩ := h; ⟨M, F2, s.trans a, b⟩
theorem UpA.back {K : PySem.W.Frag} {F F' : Hp} (s : Fs F F') {Q : List D → MS → Prop} {v : List V} {H : Hp} (h : UpA K F' Q v H) : UpA K F Q v H := let ⟨d, M, F2, a, b⟩ := h; ⟨d, M, F2, s.trans a, b⟩
theorem UpO.back {K : PySem.W.Frag} {F F' : Hp} (s : Fs F F') {Q : Option Int → MS → Prop} {v : Option Int} {H : Hp} (h : UpO K F' Q v H) : UpO K F Q v H := let ⟨M, F2, a, b⟩ := h; ⟨M, F2, s.trans a, b⟩
theorem UpS.back {N : List Str} {K : PySem.W.Frag} {F F' : Hp} (s : Fs F F') {Q : Rho → MS → Prop} {σ : L2.St} {H : Hp} (h : UpS N K F' Q σ H) : UpS N K F Q σ H := let ⟨d, M, F2, a, b⟩ := h; ⟨d, M, F2, s.trans a, b⟩

structure EndD where
  nx : Rho → MS → Prop
  rt : D → MS → Prop
  bk : Rho → MS → Prop := fun _ _ => False
  ct : Rho → MS → Prop := fun _ _ => False
def UpE (N : List Str) (K : PySem.W.Frag) (F : Hp) (E : EndD) : Ends := { nx := UpS N K F E.nx, rt := Up K F E.rt, bk := UpS N K F E.bk, ct := UpS N K F E.ct }
theorem UpE.back {N : List Str} {K : PySem.W.Frag} {F F' : Hp} (s : Fs F F') {E : EndD} : EndsLe (UpE N K F' E) (UpE N K F E) := ⟨fun _ _ h => UpS.back s h, fun _ _ h => Up.back s h, fun _ _ h => UpS.back s h, fun _ _ h => UpS.back s h⟩

/-! ### the judgements -/
structure WE (C : Ct) (e : Expr) (ρ : Rho) (M : MS) (Q : D → MS → Prop) : Prop where
  run : ∀ X F σ H, At C ρ M X F σ H → tse X e σ H (Up X.K F Q)
instance {C : Ct} {e : Expr} {ρ : Rho} {M : MS} {Q : D → MS → Prop} : CoeFun (WE C e ρ M Q) (fun _ => ∀ X F σ H, At C ρ M X F σ H → tse X e σ H (Up X.K F Q)) := ⟨fun h => h.run⟩
structure WT (C : Ct) (e : Expr) (ρ : Rho) (M : MS) (Q : Bool → MS → Prop) : Prop where
  run : ∀ X F σ H, At C ρ M X F σ H → tst X e σ H (UpB X.K F Q)
instance {C : Ct} {e : Expr} {ρ : Rho} {M : MS} {Q : Bool → MS → Prop} : CoeFun (WT C e ρ M Q) (fun _ => ∀ X F σ H, At C ρ M X F σ H → tst X e σ H (UpB X.K F Q)) := ⟨fun h => h.run⟩
structure WW (C : Ct) (e : Expr) (ρ : Rho) (M : MS) (Q : Bool → MS → Prop) : Prop where
  run : ∀ X F σ H, At C ρ M X F σ H → tsw X e σ H (UpB X.K F Q)
instance {C : Ct} {e : Expr} {ρ : Rho} {M : MS} {Q : Bool → MS → Prop} : CoeFun (WW C e ρ M Q) (fun _ => ∀ X F σ H, At C ρ M X F σ H → tsw X e σ H (UpB X.K F Q)) := ⟨fun h => h.run⟩
structure WA (C : Ct) (es : List Expr) (ρ : Rho) (M : MS) (Q : List D → MS → Prop) : Prop where
  run : ∀ X F σ H, At C ρ M X F σ H → tsa X es σ H (UpA X.K F Q)
instance {C : Ct} {es : List Expr} {ρ : Rho} {M : MS} {Q : List D → MS → Prop} : CoeFun (WA C es ρ M Q) (fun _ => ∀ X F σ H, At C ρ M X F σ H → tsa X es σ H (UpA X.K F Q)) := ⟨fun h => h.run⟩
structure WO (C : Ct) (e : Option Expr) (ρ : Rho) (M : MS) (Q : Option Int → MS → Prop) : Prop where
  run : ∀ X F σ H, At C ρ M X F σ H → tso X e σ H (UpO X.K F Q)
instance {C : Ct} {e : Option Expr} {ρ : Rho} {M : MS} {Q : Option Int → MS → Prop} : CoeFun (WO C e ρ M Q) (fun _ => ∀ X F σ H, At C ρ M X F σ H → tso X e σ H (UpO X.K F Q)) := ⟨fun h => h.run⟩
structure WS (C : Ct) (st : Stmt) (ρ : Rho) (M : MS) (E : EndD) : Prop where
  run : ∀ X F σ H, At C ρ M X F σ H → tss X st (UpE C.N X.K F E) σ H
instance {C : Ct} {st : Stmt} {ρ : Rho} {M : MS} {E : EndD} : CoeFun (WS C st ρ M E) (fun _ => ∀ X F σ H, At C ρ M X F σ H → tss X st (UpE C.N X.K F E) σ H) := ⟨fun h => h.run⟩
structure WSs (C : Ct) (st : List Stmt) (ρ : Rho) (M : MS) (E : EndD) : Prop where
  run : ∀ X F σ H, At C ρ M X F σ H → tsl X st (UpE C.N X.K F E) σ H
instance {C : Ct} {st : List Stmt} {ρ : Rho} {M : MS} {E : EndD} : CoeFun (WSs C st ρ M E) (fun _ => ∀ X F σ H, At C ρ M X F σ H → tsl X st (UpE C.N X.K F E) σ H) := ⟨fun h => h.run⟩
structure WG (C : Ct) (tg : Expr) (d : D) (ρ : Rho) (M : MS) (Q : Rho → MS → Prop) : Prop where
  run : ∀ X F σ H v, At C ρ M X F σ H → DV X.K F v d → tsg X tg v σ H (UpS C.N X.K F Q)
instance {C : Ct} {tg : Expr} {d : D} {ρ : Rho} {M : MS} {Q : Rho → MS → Prop} : CoeFun (WG C tg d ρ M Q) (fun _ => ∀ X F σ H v, At C ρ M X F σ H → DV X.K F v d → tsg X tg v σ H (UpS C.N X.K F Q)) := ⟨fun h => h.run⟩
structure OpD (C : Ct) (f : Value → Value → Sem Value) (x y : D) (M : MS) (Q : D → MS → Prop) : Prop where
  run : ∀ X F H v w, CtOk C X F → Rel X.K M F H → DV X.K F v x → DV X.K F w y → rse X f v w H (Up X.K F Q)
instance {C : Ct} {f : Value → Value → Sem Value} {x y : D} {M : MS} {Q : D → MS → Prop} : CoeFun (OpD C f x y M Q) (fun _ => ∀ X F H v w, CtOk C X F → Rel X.K M F H → DV X.K F v x → DV X.K F w y → rse X f v w H (Up X.K F Q)) := ⟨fun h => h.run⟩
structure CaD (C : Ct) (f : Value) (ds : List D) (M : MS) (Q : D → MS → Prop) : Prop where
  run : ∀ X F H vs, CtOk C X F → Rel X.K M F H → DVs X.K F vs ds → cse X f vs H (Up X.K F Q)
instance {C : Ct} {f : Value} {ds : List D} {M : MS} {Q : D → MS → Prop} : CoeFun (CaD C f ds M Q) (fun _ => ∀ X F H vs, CtOk C X F → Rel X.K M F H → DVs X.K F vs ds → cse X f vs H (Up X.K F Q)) := ⟨fun h => h.run⟩
structure MtD (C : Ct) (id : String) (x : D) (ds : List D) (M : MS) (Q : D → MS → Prop) : Prop where
  run : ∀ X F H v vs, CtOk C X F → Rel X.K M F H → DV X.K F v x → DVs X.K F vs ds → mse X id v vs H (Up X.K F Q)
instance {C : Ct} {id : String} {x : D} {ds : List D} {M : MS} {Q : D → MS → Prop} : CoeFun (MtD C id x ds M Q) (fun _ => ∀ X F H v vs, CtOk C X F → Rel X.K M F H → DV X.K F v x → DVs X.K F vs ds → mse X id v vs H (Up X.K F Q)) := ⟨fun h => h.run⟩

section
variable {C : Ct} {ρ : Rho} {M : MS}
/-- continue behind an expression -/
theorem WE.go {e : Expr} {Q : D → MS → Prop} (h : WE C e ρ M Q) {X : Cx} {F : Hp} {σ : L2.St} {H : Hp} (a : At C ρ M X F σ H) {R : VK} (k : ∀ v d M' F' H', Fs F F' → At C ρ M' X F' σ H' → DV X.K F' v d → Q d M' → R v H') : tse X e σ H R :=
  tse_mono (h X F σ H a) fun v H' ⟨d, M', F', s, r, q, z⟩ => k v d M' F' H' s (a.to s r) q z
theorem WT.go {e : Expr} {Q : Bool → MS → Prop} (h : WT C e ρ M Q) {X : Cx} {F : Hp} {σ : L2.St} {H : Hp} (a : At C ρ M X F σ H) {R : Bool → Hp → Prop} (k : ∀ b M' F' H', Fs F F' → At C ρ M' X F' σ H' → Q b M' → R b H') : tst X e σ H R :=
  tst_mono (h X F σ H a) fun v H' ⟨M', F', s, r, z⟩ => k v M' F' H' s (a.to s r) z
theorem WW.go {e : Expr} {Q : Bool → MS → Prop} (h : WW C e ρ M Q) {X : Cx} {F : Hp} {σ : L2.St} {H : Hp} (a : At C ρ M X F σ H) {R : Bool → Hp → Prop} (k : ∀ b M' F' H', Fs F F' → At C ρ M' X F' σ H' → Q b M' → R b H') : tsw X e σ H R :=
  tsw_mono (h X F σ H a) fun v H' ⟨M', F', s, r, z⟩ => k v M' F' H' s (a.to s r) z
theorem WA.go {es : List Expr} {Q : List D → MS → Prop} (h : WA C es ρ M Q) {X : Cx} {F : Hp} {σ : L2.St} {H : Hp} (a : At C ρ M X F σ H) {R : List V → Hp → Prop} (k : ∀ vs ds M' F' H', Fs F F' → At C ρ M' X F' σ H' → DVs X.K F' vs ds → Q ds M' → R vs H') : tsa X es σ H R :=
  tsa_mono (h X F σ H a) fun v H' ⟨d, M', F', s, r, q, z⟩ => k v d M' F' H' s (a.to s r) q z
theorem WO.go {e : Option Expr} {Q : Option Int → MS → Prop} (h : WO C e ρ M Q) {X : Cx} {F : Hp} {σ : L2.St} {H : Hp} (a : At C ρ M X F σ H) {R : Option Int → Hp → Prop} (k : ∀ b M' F' H', Fs F F' → At C ρ M' X F' σ H' → Q b M' → R b H') : tso X e σ H R :=
  tso_mono (h X F σ H a) fun v H' ⟨M', F', s, r, z⟩ => k v M' F' H' s (a.to s r) z

theorem WE.imp {e : Expr} {Q Q' : D → MS → Prop} (h : WE C e ρ M Q) (k : ∀ d M', Q d M' → Q' d M') : WE C e ρ M Q' := .mk fun X F σ H a => h.go a fun _ d M' F' H' s a' q z => ⟨d, M', F', s, a'.rel, q, k _ _ z⟩
theorem WSs.imp {st : List Stmt} {E E' : EndD} (h : WSs C st ρ M E) (k1 : ∀ r m, E.nx r m → E'.nx r m) (k2 : ∀ r m, E.rt r m → E'.rt r m) (k3 : ∀ r m, E.bk r m → E'.bk r m) (k4 : ∀ r m, E.ct r m → E'.ct r m) : WSs C st ρ M E' :=
  .mk fun X F σ H a => tsl_mono (D := UpE C.N X.K F E) (D' := UpE C.N X.K F E') (h X F σ H a) ⟨fun _ _ ⟨r, m, f, b, c, d, e, q⟩ => ⟨r, m, f, b, c, d, e, k1 _ _ q⟩, fun _ _ ⟨r, m, f, b, c, d, q⟩ => ⟨r, m, f, b, c, d, k2 _ _ q⟩, fun _ _ ⟨r, m, f, b, c, d, e, q⟩ => ⟨r, m, f, b, c, d, e, k3 _ _ q⟩, fun _ _ ⟨r, m, f, b, c, d, e, q⟩ => ⟨r, m, f, b, c, d, e, k4 _ _ q⟩⟩
/-- less is seen -/
theorem WSs.less {st : List Stmt} {E : EndD} {M' : MS} (l : M'.le M) (h : WSs C st ρ M' E) : WSs C st ρ M E := .mk fun X F σ H a => h X F σ H ⟨a.ok, a.nm, a.sg, a.rel.le l⟩
theorem WSs.drop {st : List Stmt} {E : EndD} (x : Addr) (h : WSs C st ρ (M.del x) E) : WSs C st ρ M E := .mk fun X F σ H a => h X F σ H ⟨a.ok, a.nm, a.sg, a.rel.drop⟩

/-! ### names, constants -/
section
variable {K : PySem.W.Frag} {F : Hp}
theorem dv_int {i : Int} : DV K F (.int i) (.d (.int i)) := Dp.int i
theorem dv_bl {i : Bool} : DV K F (.bl i) (.d (.bool i)) := Dp.bl i
theorem dv_non : DV K F .non (.d .none) := Dp.non
theorem dv_str {i : Str} : DV K F (.str i) (.d (.str i)) := Dp.str i
theorem dv_bool {v : V} {b : Bool} (h : DV K F v (.d (.bool b))) : v = .bl b := by cases (show Dp K F v (.bool b) from h); rfl
theorem dv_int' {v : V} {b : Int} (h : DV K F v (.d (.int b))) : v = .int b := by cases (show Dp K F v (.int b) from h); rfl
theorem dv_str' {v : V} {b : Str} (h : DV K F v (.d (.str b))) : v = .str b := by cases (show Dp K F v (.str b) from h); rfl
theorem dv_non' {v : V} (h : DV K F v (.d .none)) : v = .non := by cases (show Dp K F v .none from h); rfl
theorem dv_tup {v : V} {ds : List PyData} (h : DV K F v (.d (.tuple ds))) : ∃ a xs, v = .ref a ∧ SqT K F a xs ∧ DpAll K F xs ds := by
  cases (show Dp K F v (.tuple ds) from h) with
  | tup h1 h2 => exact ⟨_, _, rfl, h1, h2⟩
theorem dv_lst {v : V} {ds : List PyData} (h : DV K F v (.d (.list ds))) : ∃ a xs, v = .ref a ∧ SqL K F a xs ∧ DpAll K F xs ds := by
  cases (show Dp K F v (.list ds) from h) with
  | lst h1 h2 => exact ⟨_, _, rfl, h1, h2⟩
end
theorem we_name {x : Str} {pos : Pos} {d : D} {Q : D → MS → Prop} (h : lk ρ x = some d) (hv : visB C.sc x = true) (k : Q d M) : WE C (.Name x pos) ρ M Q := .mk fun X F σ H a => by
  obtain ⟨i, v, h1, h2, h3⟩ := a.sg.look h
  obtain ⟨hv, hd, hc⟩ := visB.ok hv
  exact PE.se (pe_var (i := i) (by rw [a.ok.N, ← a.nm]; exact h1) (by rw [a.ok.sc]; exact hv) hd hc) ⟨v, h2, d, M, F, Fs.refl F, a.rel, h3, k⟩
theorem we_int {i : Int} {j pos} {Q : D → MS → Prop} (k : Q (.d (.int i)) M) : WE C (.Constant (.int i) j pos) ρ M Q := .mk fun X F σ H a => PE.se pe_int ⟨_, M, F, Fs.refl F, a.rel, dv_int, k⟩
theorem we_bool {i : Bool} {j pos} {Q : D → MS → Prop} (k : Q (.d (.bool i)) M) : WE C (.Constant (.bool i) j pos) ρ M Q := .mk fun X F σ H a => PE.se pe_bl ⟨_, M, F, Fs.refl F, a.rel, dv_bl, k⟩
theorem we_none {j pos} {Q : D → MS → Prop} (k : Q (.d .none) M) : WE C (.Constant .none j pos) ρ M Q := .mk fun X F σ H a => PE.se pe_non ⟨_, M, F, Fs.refl F, a.rel, dv_non, k⟩
theorem we_str {i : Str} {j pos} {Q : D → MS → Prop} (k : Q (.d (.str i)) M) : WE C (.Constant (.str i) j pos) ρ M Q := .mk fun X F σ H a => PE.se pe_str ⟨_, M, F, Fs.refl F, a.rel, dv_str, k⟩
/-- a constant of the module -/
def GlobD (g : GD) (x : Str) (d : D) : Prop := ∃ u v, g.mg x = some u ∧ RelV v u ∧ ∀ F, DV g.K F v d
theorem we_glob {x : Str} {pos : Pos} {d : D} {Q : D → MS → Prop} (h : GlobD C.g x d) (hg : glB C.sc x = true) (k : Q d M) : WE C (.Name x pos) ρ M Q := .mk fun X F σ H a => by
  obtain ⟨u, v, h1, h2, h3⟩ := h
  obtain ⟨hg, hd, _⟩ := glB.ok hg
  exact PE.se (pe_glob (by show X.env.scope.names.lookup x = _; rw [a.ok.sc]; exact hg) (by rw [a.ok.mg]; exact h1) h2 hd) ⟨d, M, F, Fs.refl F, a.rel, by rw [a.ok.K]; exact h3 F, k⟩

/-! ### operators -/
theorem we_bin {a b : Expr} {op : Operator} {pos : Pos} {Q : D → MS → Prop} (h : WE C a ρ M fun x M1 => WE C b ρ M1 fun y M2 => OpD C (binaryOp op) x y M2 Q) : WE C (.BinOp a op b pos) ρ M Q := .mk fun X F σ H at0 =>
  PE.se (pe_op op_s pe_s pe_s) (h.go at0 fun v x M1 F1 H1 s1 a1 q1 h1 => h1.go a1 fun w y M2 F2 H2 s2 a2 q2 h2 => rse_mono (h2 X F2 H2 v w a2.ok a2.rel (q1.mono s2) q2) fun _ _ z => z.back (s1.trans s2))
theorem we_cmp {a b : Expr} {op : CmpOp} {pos : Pos} {Q : D → MS → Prop} (hm : behindInMarks op b = false) (h : WE C a ρ M fun x M1 => WE C b ρ M1 fun y M2 => OpD C (compareOp op) x y M2 Q) : WE C (.Compare a [op] [b] pos) ρ M Q := .mk fun X F σ H at0 =>
  PE.se (pe_cmpR op_s pe_s pe_s hm) (h.go at0 fun v x M1 F1 H1 s1 a1 q1 h1 => h1.go a1 fun w y M2 F2 H2 s2 a2 q2 h2 => rse_mono (h2 X F2 H2 v w a2.ok a2.rel (q1.mono s2) q2) fun _ _ z => z.back (s1.trans s2))
theorem wt_cmp {a b : Expr} {op : CmpOp} {pos : Pos} {Q : Bool → MS → Prop} (hm : behindInMarks op b = false) (h : WE C a ρ M fun x M1 => WE C b ρ M1 fun y M2 => OpD C (compareOp op) x y M2 fun z M3 => ∃ k, z = .d (.bool k) ∧ Q k M3) : WT C (.Compare a [op] [b] pos) ρ M Q := .mk fun X F σ H at0 =>
  PT.se (pt_cmpR op_s pe_s pe_s hm) (h.go at0 fun v x M1 F1 H1 s1 a1 q1 h1 => h1.go a1 fun w y M2 F2 H2 s2 a2 q2 h2 => rse_mono (h2 X F2 H2 v w a2.ok a2.rel (q1.mono s2) q2) fun _ _ ⟨z, M3, F3, s3, r3, q3, k, e, q⟩ => by
    subst e
    exact ⟨k, dv_bool q3, M3, F3, (s1.trans s2).trans s3, r3, q⟩)
theorem we_cmp2 {a b c : Expr} {op op' : CmpOp} {pos : Pos} {Q : D → MS → Prop} (hm : lastMarks [op, op'] [b, c] = false)
    (h : WE C a ρ M fun x M1 => WE C b ρ M1 fun y M2 => OpD C (compareOp op) x y M2 fun z M3 => ∃ k, z = .d (.bool k) ∧ if k = true then WE C c ρ M3 fun u M4 => OpD C (compareOp op') y u M4 Q else Q (.d (.bool false)) M3) :
    WE C (.Compare a [op, op'] [b, c] pos) ρ M Q := .mk fun X F σ H at0 => by
  refine PE.se (pe_chain op_s op_s pe_s pe_s pe_s hm) ?_
  refine h.go at0 fun v x M1 F1 H1 s1 a1 q1 h1 => ?_
  refine h1.go a1 fun w y M2 F2 H2 s2 a2 q2 h2 => ?_
  refine rse_mono (h2 X F2 H2 v w a2.ok a2.rel (q1.mono s2) q2) fun z H3 ⟨zd, M3, F3, s3, r3, q3, k, e, q⟩ => ?_
  subst e
  refine ⟨k, dv_bool q3, ?_⟩
  have a3 := a2.to s3 r3
  cases k with
  | true =>
    refine ite_tt ?_
    exact (show WE C c ρ M3 _ from q).go a3 fun u d M4 F4 H4 s4 a4 q4 h4 => rse_mono (h4 X F4 H4 w u a4.ok a4.rel (q2.mono (s3.trans s4)) q4) fun _ _ z => z.back (((s1.trans s2).trans s3).trans s4)
  | false =>
    refine ite_ff ?_
    exact ⟨_, M3, F3, (s1.trans s2).trans s3, r3, dv_bl, q⟩
theorem wt_cmp2 {a b c : Expr} {op op' : CmpOp} {pos : Pos} {Q : Bool → MS → Prop} (hm : lastMarks [op, op'] [b, c] = false)
    (h : WE C a ρ M fun x M1 => WE C b ρ M1 fun y M2 => OpD C (compareOp op) x y M2 fun z M3 => ∃ k, z = .d (.bool k) ∧ if k = true then WE C c ρ M3 fun u M4 => OpD C (compareOp op') y u M4 (fun z M5 => ∃ k, z = .d (.bool k) ∧ Q k M5) else Q false M3) :
    WT C (.Compare a [op, op'] [b, c] pos) ρ M Q := .mk fun X F σ H at0 => by
  refine PT.se (pt_chain op_s op_s pe_s pe_s pe_s hm) ?_
  refine h.go at0 fun v x M1 F1 H1 s1 a1 q1 h1 => ?_
  refine h1.go a1 fun w y M2 F2 H2 s2 a2 q2 h2 => ?_
  refine rse_mono (h2 X F2 H2 v w a2.ok a2.rel (q1.mono s2) q2) fun z H3 ⟨zd, M3, F3, s3, r3, q3, k, e, q⟩ => ?_
  subst e
  refine ⟨k, dv_bool q3, ?_⟩
  have a3 := a2.to s3 r3
  cases k with
  | true =>
    refine ite_tt ?_
    refine (show WE C c ρ M3 _ from q).go a3 fun u d M4 F4 H4 s4 a4 q4 h4 => ?_
    refine rse_mono (h4 X F4 H4 w u a4.ok a4.rel (q2.mono (s3.trans s4)) q4) fun _ _ ⟨zd, M5, F5, s5, r5, q5, k, e, q⟩ => ?_
    subst e
    exact ⟨k, dv_bool q5, M5, F5, (((s1.trans s2).trans s3).trans s4).trans s5, r5, q⟩
  | false =>
    refine ite_ff ?_
    exact ⟨false, rfl, M3, F3, (s1.trans s2).trans s3, r3, q⟩
end
end Y

/-! Layer Y, part C: tests, arguments, statements, targets, loops, comprehensions. -/
namespace Y
open PySem PySem.Spec PyProof.Rows L2
section
variable {X : Cx}
def tsgs (X : Cx) (ts : List Expr) : TGs := fun vs σ H Q => ∀ pins s us, Inv X pins σ H s → Vals vs us → wpAny (model X.prog X.w) X.A (assignInOrder ((assignEach ts X.env).map (·.2)) us) (fun _ s' => ∃ σ' H', Inv X pins σ' H' s' ∧ Q σ' H') X.xe s
theorem pgs_s {ts : List Expr} : PGs X ts (tsgs X ts) := ⟨fun pins s _ _ _ us _ I r h => h pins s us I r⟩
theorem PGs.se {ts : List Expr} {t : TGs} (h : PGs X ts t) {vs : List V} {σ : L2.St} {H : Hp} {Q : L2.St → Hp → Prop} (q : t vs σ H Q) : tsgs X ts vs σ H Q := fun pins s us I r => h.run pins s σ H vs us Q I r q
theorem tsgs_mono {ts : List Expr} {vs : List V} {σ : L2.St} {H : Hp} {Q Q' : L2.St → Hp → Prop} (h : tsgs X ts vs σ H Q) (k : ∀ v H', Q v H' → Q' v H') : tsgs X ts vs σ H Q' := fun pins s us I r => thn (h pins s us I r) fun _ _ ⟨σ', H', I', q⟩ => ⟨σ', H', I', k _ _ q⟩
def pse (X : Cx) : TSet := fun o i v H Q => ∀ pins s σ ov iv u, Inv X pins σ H s → RelV o ov → RelV i iv → RelV v u → wpAny (model X.prog X.w) X.A (setItem ov iv u) (fun _ s' => ∃ H', Inv X pins σ H' s' ∧ Q H') X.xe s
theorem pset_s : PSet X (pse X) := fun pins s σ _ _ _ _ ov iv u _ I r1 r2 r3 h => h pins s σ ov iv u I r1 r2 r3
theorem PSet.se {t : TSet} (h : PSet X t) {o i v : V} {H : Hp} {Q : Hp → Prop} (q : t o i v H Q) : pse X o i v H Q := fun pins s σ ov iv u I r1 r2 r3 => h pins s σ H o i v ov iv u Q I r1 r2 r3 q
theorem pse_mono {o i v : V} {H : Hp} {Q Q' : Hp → Prop} (h : pse X o i v H Q) (k : ∀ H', Q H' → Q' H') : pse X o i v H Q' := fun pins s σ ov iv u I r1 r2 r3 => thn (h pins s σ ov iv u I r1 r2 r3) fun _ _ ⟨H', I', q⟩ => ⟨H', I', k _ q⟩
end
structure WGs (C : Ct) (tgs : List Expr) (ds : List D) (ρ : Rho) (M : MS) (Q : Rho → MS → Prop) : Prop where
  run : ∀ X F σ H vs, At C ρ M X F σ H → DVs X.K F vs ds → tsgs X tgs vs σ H (UpS C.N X.K F Q)
instance {C : Ct} {tgs : List Expr} {ds : List D} {ρ : Rho} {M : MS} {Q : Rho → MS → Prop} : CoeFun (WGs C tgs ds ρ M Q) (fun _ => ∀ X F σ H vs, At C ρ M X F σ H → DVs X.K F vs ds → tsgs X tgs vs σ H (UpS C.N X.K F Q)) := ⟨fun h => h.run⟩
section
variable {C : Ct} {ρ : Rho} {M : MS}

/-! ### tests -/
theorem wt_bool {e : Expr} {Q : Bool → MS → Prop} (he : ∀ env whole, isTrue e env whole = (do let v ← whole; standAt e.pos; holding [v] (truthy v))) (h : WE C e ρ M fun z M1 => ∃ k, z = .d (.bool k) ∧ Q k M1) : WT C e ρ M Q := .mk fun X F σ H at0 => by
  refine PT.se (pt_val pe_s (he X.env)) ?_
  refine h.go at0 fun v d M1 F1 H1 s1 a1 q1 ⟨k, e, q⟩ => ?_
  subst e
  exact ⟨k, dv_bool q1, M1, F1, s1, a1.rel, q⟩
/-- the truth of a value -/
def TruD (M : MS) (d : D) (k : Bool) : Prop := match d with
  | .d .none => k = false
  | .d (.bool b) => k = b
  | .d (.int i) => k = (i != 0)
  | .d (.str x) => x.length ≤ sizeLine ∧ k = !x.cps.toList.isEmpty
  | .d (.list xs) => k = !xs.isEmpty
  | .d (.tuple xs) => k = !xs.isEmpty
  | .d (.dict _) => False
  | .r a => (∃ xs, M.m a = some (.lst xs) ∧ k = !xs.isEmpty) ∨ ∃ kvs, M.m a = some (.dct kvs) ∧ k = !kvs.isEmpty
theorem fa2_empty {α β : Type} {R : α → β → Prop} {xs : List α} {ys : List β} (h : Fa2 R xs ys) : xs.isEmpty = ys.isEmpty := by cases h <;> rfl
theorem dpall_empty {K : PySem.W.Frag} {F : Hp} {xs : List V} {ys : List PyData} (h : DpAll K F xs ys) : xs.isEmpty = ys.isEmpty := by cases h <;> rfl
theorem TruD.ok {K : PySem.W.Frag} {F H : Hp} {v : V} {d : D} {k : Bool} (R : Rel K M F H) (q : DV K F v d) (h : TruD M d k) : TruV K v H k := by
  cases d with
  | d x =>
    cases x with
    | none => cases dv_non' q; exact h
    | bool b => cases dv_bool q; exact h
    | int i => cases dv_int' q; exact h
    | str x =>
      cases dv_str' q
      refine ⟨h.1, h.2.trans ?_⟩
      obtain ⟨⟨l⟩⟩ := x
      cases l with
      | nil => rfl
      | cons a t =>
        have e : (((Str.mk ⟨a :: t⟩).length : Int) != 0) = true := by
          have : ((Str.mk ⟨a :: t⟩).length : Int) = (t.length : Int) + 1 := by show (((a :: t).length : Nat) : Int) = _; simp
          rw [this]
          exact bne_iff_ne.mpr (by omega)
        rw [e]; rfl
    | list xs => obtain ⟨a, vs, rfl, h1, h2⟩ := dv_lst q; exact .inl ⟨vs, SqL.mono R.sub h1, h.trans (by rw [dpall_empty h2])⟩
    | tuple xs => obtain ⟨a, vs, rfl, h1, h2⟩ := dv_tup q; exact .inr (.inl ⟨vs, SqT.mono R.sub h1, h.trans (by rw [dpall_empty h2])⟩)
    | dict _ => exact h.elim
  | r a =>
    cases (show v = .ref a from q)
    rcases h with ⟨xs, h1, h2⟩ | ⟨kvs, h1, h2⟩
    · obtain ⟨u, h3, h4⟩ := R.read h1
      cases u with
      | lst vs => exact .inl ⟨vs, SqL.of h3, h2.trans (by rw [fa2_empty (show DVs K F vs xs from h4)])⟩
      | _ => exact h4.elim
    · obtain ⟨u, h3, h4⟩ := R.read h1
      cases u with
      | dK vs => exact .inr (.inr ⟨vs, h3, h2.trans (by rw [fa2_empty (show Fa2 _ vs kvs from h4)])⟩)
      | _ => exact h4.elim
theorem wt_truth {e : Expr} {Q : Bool → MS → Prop} (he : ∀ env whole, isTrue e env whole = (do let v ← whole; standAt e.pos; holding [v] (truthy v))) (h : WE C e ρ M fun z M1 => ∃ k, TruD M1 z k ∧ Q k M1) : WT C e ρ M Q := .mk fun X F σ H at0 => by
  refine PT.se (pt_truth pe_s (he X.env)) ?_
  refine h.go at0 fun v d M1 F1 H1 s1 a1 q1 ⟨k, e, q⟩ => ?_
  exact ⟨k, TruD.ok a1.rel q1 e, M1, F1, s1, a1.rel, q⟩
theorem ww_t {e : Expr} {Q : Bool → MS → Prop} (h : ∀ X F σ H, At C ρ M X F σ H → PT X e (tst X e) → tst X e σ H (UpB X.K F Q)) : WT C e ρ M Q := .mk fun X F σ H a => h X F σ H a pt_s
theorem wt_w {e : Expr} {Q : Bool → MS → Prop} (h : WW C e ρ M Q) : WT C e ρ M Q := .mk fun X F σ H a => PT.se pw_s.pt (h X F σ H a)
theorem ww_and1 {a : Expr} {pos : Pos} {Q : Bool → MS → Prop} (h : WT C a ρ M Q) : WW C (.BoolOp .And [a] pos) ρ M Q := .mk fun X F σ H at0 => PW.se (pw_and1 pt_s) (h X F σ H at0)
theorem ww_or1 {a : Expr} {pos : Pos} {Q : Bool → MS → Prop} (h : WT C a ρ M Q) : WW C (.BoolOp .Or [a] pos) ρ M Q := .mk fun X F σ H at0 => PW.se (pw_or1 pt_s) (h X F σ H at0)
theorem ww_and {a b : Expr} {rest : List Expr} {pos : Pos} {Q : Bool → MS → Prop} (h : WT C a ρ M fun c M1 => if c = true then WW C (.BoolOp .And (b :: rest) pos) ρ M1 Q else Q false M1) : WW C (.BoolOp .And (a :: b :: rest) pos) ρ M Q := .mk fun X F σ H at0 => by
  refine PW.se (pw_and pt_s pw_s) ?_
  refine h.go at0 fun c M1 F1 H1 s1 a1 q1 => ?_
  cases c with
  | true => exact ite_tt ((show WW C _ ρ M1 Q from q1).go a1 fun b M2 F2 H2 s2 a2 q2 => ⟨M2, F2, s1.trans s2, a2.rel, q2⟩)
  | false => exact ite_ff ⟨M1, F1, s1, a1.rel, q1⟩
theorem ww_or {a b : Expr} {rest : List Expr} {pos : Pos} {Q : Bool → MS → Prop} (h : WT C a ρ M fun c M1 => if c = true then Q true M1 else WW C (.BoolOp .Or (b :: rest) pos) ρ M1 Q) : WW C (.BoolOp .Or (a :: b :: rest) pos) ρ M Q := .mk fun X F σ H at0 => by
  refine PW.se (pw_or pt_s pw_s) ?_
  refine h.go at0 fun c M1 F1 H1 s1 a1 q1 => ?_
  cases c with
  | false => exact ite_ff ((show WW C _ ρ M1 Q from q1).go a1 fun b M2 F2 H2 s2 a2 q2 => ⟨M2, F2, s1.trans s2, a2.rel, q2⟩)
  | true => exact ite_tt ⟨M1, F1, s1, a1.rel, q1⟩
theorem wt_not {a : Expr} {pos : Pos} {Q : Bool → MS → Prop} (h : WT C a ρ M fun c M1 => Q (!c) M1) : WT C (.UnaryOp .Not a pos) ρ M Q := .mk fun X F σ H at0 =>
  PT.se (pt_not pt_s) (h.go at0 fun c M1 F1 H1 s1 a1 q1 => ⟨M1, F1, s1, a1.rel, q1⟩)
theorem we_one {a : Expr} {op : BoolOp} {pos : Pos} {Q : D → MS → Prop} (h : WE C a ρ M Q) : WE C (.BoolOp op [a] pos) ρ M Q := .mk fun X F σ H at0 => PE.se (pe_one pe_s) (h X F σ H at0)
theorem we_and {a b : Expr} {rest : List Expr} {pos : Pos} {Q : D → MS → Prop} (h : WE C a ρ M fun z M1 => ∃ c, z = .d (.bool c) ∧ if c = true then WE C (.BoolOp .And (b :: rest) pos) ρ M1 Q else Q (.d (.bool false)) M1) : WE C (.BoolOp .And (a :: b :: rest) pos) ρ M Q := .mk fun X F σ H at0 => by
  refine PE.se (pe_and pe_s pe_s) ?_
  refine h.go at0 fun v z M1 F1 H1 s1 a1 q1 ⟨c, e, q⟩ => ?_
  subst e
  refine ⟨c, dv_bool q1, ?_⟩
  cases c with
  | true => exact ite_tt ((show WE C _ ρ M1 Q from q).go a1 fun v d M2 F2 H2 s2 a2 q2 z => ⟨d, M2, F2, s1.trans s2, a2.rel, q2, z⟩)
  | false => exact ite_ff ⟨_, M1, F1, s1, a1.rel, dv_bl, q⟩
theorem we_or {a b : Expr} {rest : List Expr} {pos : Pos} {Q : D → MS → Prop} (h : WE C a ρ M fun z M1 => ∃ c, z = .d (.bool c) ∧ if c = true then Q (.d (.bool true)) M1 else WE C (.BoolOp .Or (b :: rest) pos) ρ M1 Q) : WE C (.BoolOp .Or (a :: b :: rest) pos) ρ M Q := .mk fun X F σ H at0 => by
  refine PE.se (pe_or pe_s pe_s) ?_
  refine h.go at0 fun v z M1 F1 H1 s1 a1 q1 ⟨c, e, q⟩ => ?_
  subst e
  refine ⟨c, dv_bool q1, ?_⟩
  cases c with
  | false => exact ite_ff ((show WE C _ ρ M1 Q from q).go a1 fun v d M2 F2 H2 s2 a2 q2 z => ⟨d, M2, F2, s1.trans s2, a2.rel, q2, z⟩)
  | true => exact ite_tt ⟨_, M1, F1, s1, a1.rel, dv_bl, q⟩
theorem we_not {a : Expr} {pos : Pos} {Q : D → MS → Prop} (h : WE C a ρ M fun z M1 => ∃ c, z = .d (.bool c) ∧ Q (.d (.bool (!c))) M1) : WE C (.UnaryOp .Not a pos) ρ M Q := .mk fun X F σ H at0 =>
  PE.se (pe_not pe_s) (h.go at0 fun v z M1 F1 H1 s1 a1 q1 ⟨c, e, q⟩ => by subst e; exact ⟨c, dv_bool q1, _, M1, F1, s1, a1.rel, dv_bl, q⟩)
theorem we_if {c a b : Expr} {pos : Pos} {Q : D → MS → Prop} (h : WT C c ρ M fun k M1 => if k = true then WE C a ρ M1 Q else WE C b ρ M1 Q) : WE C (.IfExp c a b pos) ρ M Q := .mk fun X F σ H at0 => by
  refine PE.se (pe_ifExp pt_s pe_s pe_s) ?_
  refine h.go at0 fun c M1 F1 H1 s1 a1 q1 => ?_
  cases c with
  | true => exact ite_tt ((show WE C _ ρ M1 Q from q1).go a1 fun v d M2 F2 H2 s2 a2 q2 z => ⟨d, M2, F2, s1.trans s2, a2.rel, q2, z⟩)
  | false => exact ite_ff ((show WE C _ ρ M1 Q from q1).go a1 fun v d M2 F2 H2 s2 a2 q2 z => ⟨d, M2, F2, s1.trans s2, a2.rel, q2, z⟩)

/-! ### argument lists, displays -/
theorem wa_nil {Q : List D → MS → Prop} (h : Q [] M) : WA C [] ρ M Q := .mk fun X F σ H at0 => PA.se pa_nil ⟨[], M, F, Fs.refl F, at0.rel, .nil, h⟩
theorem wa_cons {e : Expr} {es : List Expr} {Q : List D → MS → Prop} (hs : ∀ env, starEach (e :: es) env = (false, eval e env) :: starEach es env) (h : WE C e ρ M fun x M1 => WA C es ρ M1 fun xs M2 => Q (x :: xs) M2) : WA C (e :: es) ρ M Q := .mk fun X F σ H at0 =>
  PA.se (pa_cons pe_s pa_s (hs X.env)) (h.go at0 fun v x M1 F1 H1 s1 a1 q1 h1 => h1.go a1 fun vs xs M2 F2 H2 s2 a2 q2 z => ⟨x :: xs, M2, F2, s1.trans s2, a2.rel, .cons (q1.mono s2) q2, z⟩)
/-- a new list: kept as a thing that may change, or at once as data -/
def NewL (Q : D → MS → Prop) (M : MS) (xs : List D) : Prop := (∀ p, M.m p = none → Q (.r p) (M.put p (.lst xs))) ∨ ∃ ds, xs = ds.map D.d ∧ Q (.d (.list ds)) M
theorem NewL.up {K : PySem.W.Frag} {F F1 H : Hp} {Q : D → MS → Prop} {xs : List D} {vs : List V} (n : NewL Q M xs) (s : Fs F F1) (R : Rel K M F1 H) (q : DVs K F1 vs xs) : ∀ p, H p = none → Up K F Q (.ref p) (upd H p (.lst vs)) := fun p hp => by
  rcases n with h | ⟨ds, rfl, h⟩
  · exact ⟨.r p, _, F1, s, R.new (o := .lst xs) hp q, rfl, h p (R.free hp).2⟩
  · obtain ⟨s2, R2⟩ := R.grow (u := .lst vs) hp
    exact ⟨.d (.list ds), M, _, s.trans s2, R2, Dp.lst (SqL.of upd_same) (DpAll.mono s2 q.all), h⟩
theorem NewL.mut {Q : D → MS → Prop} {xs : List D} (h : ∀ p, M.m p = none → Q (.r p) (M.put p (.lst xs))) : NewL Q M xs := .inl h
theorem NewL.data {Q : D → MS → Prop} {ds : List PyData} (h : Q (.d (.list ds)) M) : NewL Q M (ds.map D.d) := .inr ⟨ds, rfl, h⟩
theorem NewL.data' {Q : D → MS → Prop} {xs : List D} (ds : List PyData) (e : xs = ds.map D.d) (h : Q (.d (.list ds)) M) : NewL Q M xs := .inr ⟨ds, e, h⟩
theorem we_list {es : List Expr} {pos : Pos} {Q : D → MS → Prop} (h : WA C es ρ M fun xs M1 => xs.length ≤ sizeLine ∧ NewL Q M1 xs) : WE C (.List es pos) ρ M Q := .mk fun X F σ H at0 =>
  PE.se (pe_lst pa_s) (h.go at0 fun vs xs M1 F1 H1 s1 a1 q1 ⟨z, n⟩ => ⟨by rw [q1.length]; exact z, n.up s1 a1.rel q1⟩)
theorem we_tuple {es : List Expr} {k : Nat} {pos : Pos} {Q : D → MS → Prop} (h : WA C es ρ M fun xs M1 => xs.length ≤ sizeLine ∧ ∃ ds, xs = ds.map D.d ∧ Q (.d (.tuple ds)) M1) : WE C (.Tuple es k pos) ρ M Q := .mk fun X F σ H at0 =>
  PE.se (pe_tup pa_s) (h.go at0 fun vs xs M1 F1 H1 s1 a1 q1 ⟨z, ds, e, n⟩ => ⟨by rw [q1.length]; exact z, fun p hp => by
    subst e
    obtain ⟨s2, R2⟩ := a1.rel.grow (u := .tup vs) hp
    exact ⟨.d (.tuple ds), M1, _, s1.trans s2, R2, Dp.tup (SqT.of upd_same) (DpAll.mono s2 q1.all), n⟩⟩)

/-! ### calls of built-ins, methods, subscripts -/
theorem we_callB {x : Str} {e : Expr} {es : List Expr} {id : String} {p pos : Pos} {Q : D → MS → Prop} (hm : C.g.mg x = none) (hv : bootBuiltins x = some (.builtin id)) (hg : glB C.sc x = true)
    (he : ∀ env, starEach (e :: es) env = (false, eval e env) :: starEach es env) (hpl : ∀ env, (backTo pos (starEach es env)).any (·.1) = false) (h : WA C (e :: es) ρ M fun xs M1 => CaD C (.builtin id) xs M1 Q) : WE C (.Call (.Name x p) (e :: es) [] pos) ρ M Q := .mk fun X F σ H at0 => by
  obtain ⟨hg, hd, hn⟩ := glB.ok hg
  refine PE.se (pe_callB call_s (by show X.env.scope.names.lookup x = _; rw [at0.ok.sc]; exact hg) (by rw [at0.ok.mg]; exact hm) hv pa_s hn hd (he X.env) (hpl X.env)) ?_
  exact h.go at0 fun vs xs M1 F1 H1 s1 a1 q1 h1 => cse_mono (h1 X F1 H1 vs a1.ok a1.rel q1) fun _ _ z => z.back s1
theorem we_callT {x : Str} {e : Expr} {es : List Expr} {T : String} {p pos : Pos} {Q : D → MS → Prop} (hm : C.g.mg x = none) (hv : bootBuiltins x = some (.type T)) (hg : glB C.sc x = true)
    (he : ∀ env, starEach (e :: es) env = (false, eval e env) :: starEach es env) (hpl : ∀ env, (backTo pos (starEach es env)).any (·.1) = false) (h : WA C (e :: es) ρ M fun xs M1 => CaD C (.type T) xs M1 Q) : WE C (.Call (.Name x p) (e :: es) [] pos) ρ M Q := .mk fun X F σ H at0 => by
  obtain ⟨hg, hd, hn⟩ := glB.ok hg
  refine PE.se (pe_callTy call_s (by show X.env.scope.names.lookup x = _; rw [at0.ok.sc]; exact hg) (by rw [at0.ok.mg]; exact hm) hv pa_s hn hd (he X.env) (hpl X.env)) ?_
  exact h.go at0 fun vs xs M1 F1 H1 s1 a1 q1 h1 => cse_mono (h1 X F1 H1 vs a1.ok a1.rel q1) fun _ _ z => z.back s1
theorem we_callT0 {x : Str} {T : String} {p pos : Pos} {Q : D → MS → Prop} (hm : C.g.mg x = none) (hv : bootBuiltins x = some (.type T)) (hg : glB C.sc x = true) (h : CaD C (.type T) [] M Q) : WE C (.Call (.Name x p) [] [] pos) ρ M Q := .mk fun X F σ H at0 => by
  obtain ⟨hg, hd, hn⟩ := glB.ok hg
  refine PE.se (pe_callTy0 call_s (by show X.env.scope.names.lookup x = _; rw [at0.ok.sc]; exact hg) (by rw [at0.ok.mg]; exact hm) hv hn hd) ?_
  exact h X F H [] at0.ok at0.rel .nil
theorem CaD.of {f : Value} {ds : List D} {Q : D → MS → Prop} {r : Cx → List V → Hp → VK → Prop} (hr : ∀ X F, CtOk C X F → CallR X f (r X)) (h : ∀ X F H vs, CtOk C X F → Rel X.K M F H → DVs X.K F vs ds → r X vs H (Up X.K F Q)) : CaD C f ds M Q := .mk fun X F H vs ok R q => CallR.se (hr X F ok) (h X F H vs ok R q)
theorem OpD.of {f : Value → Value → Sem Value} {x y : D} {Q : D → MS → Prop} {r : Cx → R2} (hr : ∀ X F, CtOk C X F → OpR X f (r X)) (h : ∀ X F H v w, CtOk C X F → Rel X.K M F H → DV X.K F v x → DV X.K F w y → r X v w H (Up X.K F Q)) : OpD C f x y M Q := .mk fun X F H v w ok R q1 q2 => OpR.se (hr X F ok) (h X F H v w ok R q1 q2)
theorem MtD.of {id : String} {x : D} {ds : List D} {Q : D → MS → Prop} {r : Cx → V → List V → Hp → VK → Prop} (hr : ∀ X F, CtOk C X F → MtR X id (r X)) (h : ∀ X F H v vs, CtOk C X F → Rel X.K M F H → DV X.K F v x → DVs X.K F vs ds → r X v vs H (Up X.K F Q)) : MtD C id x ds M Q := .mk fun X F H v vs ok R q1 q2 => MtR.se (hr X F ok) (h X F H v vs ok R q1 q2)

/-- the value is of that built-in type -/
def TyD (M : MS) (T : String) (d : D) : Prop := match d with
  | .d (.str _) => T = "str"
  | .d (.int _) => T = "int"
  | .d (.list _) => T = "list"
  | .r a => (T = "list" ∧ ∃ xs, M.m a = some (.lst xs)) ∨ (T = "dict" ∧ ((∃ xs, M.m a = some (.dct xs)) ∨ ∃ xs, M.m a = some (.dcT xs)))
  | _ => False
theorem TyD.ok {K : PySem.W.Frag} {F H : Hp} {T : String} {v : V} {d : D} (R : Rel K M F H) (q : DV K F v d) (h : TyD M T d) : tyV K T v H := by
  cases d with
  | d x =>
    cases x with
    | str x => cases dv_str' q; exact h
    | int x => cases dv_int' q; exact h
    | list xs => obtain ⟨a, vs, rfl, h1, h2⟩ := dv_lst q; exact .inl ⟨h, vs, SqL.mono R.sub h1⟩
    | _ => exact h.elim
  | r a =>
    cases (show v = .ref a from q)
    rcases h with ⟨e, xs, h1⟩ | ⟨e, h1⟩
    · obtain ⟨u, h3, h4⟩ := R.read h1
      cases u with
      | lst vs => exact .inl ⟨e, vs, SqL.of h3⟩
      | _ => exact h4.elim
    · refine .inr (.inr (.inl ⟨e, ?_⟩))
      rcases h1 with ⟨xs, h1⟩ | ⟨xs, h1⟩
      · obtain ⟨u, h3, h4⟩ := R.read h1
        cases u with
        | dK vs => exact .inl ⟨vs, h3⟩
        | _ => exact h4.elim
      · obtain ⟨u, h3, h4⟩ := R.read h1
        cases u with
        | dT vs => exact .inr ⟨vs, h3⟩
        | _ => exact h4.elim
theorem we_meth {o e : Expr} {es : List Expr} {name : Str} {T id : String} {apos cpos : Pos} {Q : D → MS → Prop} (pa : PlainAttrs T) (slot : Slot T name id) (hty : typeOf (.builtin id) = pure (.type "method_descriptor"))
    (hbase : ∀ env, attributeBase o name env (eval o env) = eval o env)
    (hfew : ∀ env, ((backTo cpos (starEach (e :: es) env)).all (fun x => !x.1) && (backToKw cpos (keywordEach [] env)).all (fun x => x.1.isSome) && decide ((e :: es).length + ([] : List Keyword).length + (if ([] : List Keyword).isEmpty then 0 else 1) < 30)) = true)
    (hline : (apos.endLine == cpos.line) = true) (hs : ∀ env, starEach (e :: es) env = (false, eval e env) :: starEach es env) (hplain : ∀ env, (backTo cpos (starEach es env)).any (·.1) = false)
    (h : WE C o ρ M fun x M1 => TyD M1 T x ∧ WA C (e :: es) ρ M1 fun xs M2 => MtD C id x xs M2 Q) : WE C (.Call (.Attribute o name apos) (e :: es) [] cpos) ρ M Q := .mk fun X F σ H at0 => by
  refine PE.se (pe_bm pa slot hty mt_s pe_s pa_s (hbase X.env) (hfew X.env) hline (hs X.env) (hplain X.env)) ?_
  refine h.go at0 fun v x M1 F1 H1 s1 a1 q1 ⟨ty, h1⟩ => ⟨TyD.ok a1.rel q1 ty, ?_⟩
  exact h1.go a1 fun vs xs M2 F2 H2 s2 a2 q2 h2 => MtR.se mt_s (fun pins s σ v' us I r1 r2 => thn (h2 X F2 H2 v vs a2.ok a2.rel (q1.mono s2) q2 pins s σ v' us I r1 r2) fun _ _ ⟨v, H', I', r, z⟩ => ⟨v, H', I', r, z.back (s1.trans s2)⟩)
theorem we_meth0 {o : Expr} {name : Str} {T id : String} {apos cpos : Pos} {Q : D → MS → Prop} (pa : PlainAttrs T) (slot : Slot T name id) (hty : typeOf (.builtin id) = pure (.type "method_descriptor"))
    (hbase : ∀ env, attributeBase o name env (eval o env) = eval o env) (hline : (apos.endLine == cpos.line) = true)
    (h : WE C o ρ M fun x M1 => TyD M1 T x ∧ MtD C id x [] M1 Q) : WE C (.Call (.Attribute o name apos) [] [] cpos) ρ M Q := .mk fun X F σ H at0 => by
  refine PE.se (pe_bm0 pa slot hty mt_s pe_s (hbase X.env) hline) ?_
  refine h.go at0 fun v x M1 F1 H1 s1 a1 q1 ⟨ty, h1⟩ => ⟨TyD.ok a1.rel q1 ty, ?_⟩
  exact MtR.se mt_s (fun pins s σ v' us I r1 r2 => thn (h1 X F1 H1 v [] a1.ok a1.rel q1 .nil pins s σ v' us I r1 r2) fun _ _ ⟨v, H', I', r, z⟩ => ⟨v, H', I', r, z.back s1⟩)

/-- an item -/
def IxD (M : MS) (x y : D) (z : D) : Prop := match x, y with
  | .d (.str s), .d (.int i) => s.length ≤ sizeLine ∧ ∃ c, atI s.cps.toList i = some c ∧ z = .d (.str ⟨#[c]⟩)
  | .d (.tuple xs), .d (.int i) => ∃ u, atI xs i = some u ∧ z = .d u
  | .d (.list xs), .d (.int i) => ∃ u, atI xs i = some u ∧ z = .d u
  | .r a, .d (.int i) => ∃ xs, M.m a = some (.lst xs) ∧ atI xs i = some z
  | _, _ => False
theorem atI_fa2 {α β : Type} {R : α → β → Prop} {xs : List α} {ys : List β} (h : Fa2 R xs ys) {i : Int} {y : β} (e : atI ys i = some y) : ∃ x, atI xs i = some x ∧ R x y := by
  unfold atI at e ⊢
  rw [h.length]
  cases e1 : ixN ys.length i with
  | none => rw [e1] at e; cases e
  | some j =>
    rw [e1] at e
    exact h.get e
theorem atI_map {α β : Type} {f : α → β} {xs : List α} {i : Int} {y : α} (e : atI xs i = some y) : atI (xs.map f) i = some (f y) := by
  unfold atI at e ⊢
  rw [List.length_map]
  cases e1 : ixN xs.length i with
  | none => rw [e1] at e; cases e
  | some j => rw [e1] at e; show (xs.map f)[j]? = _; rw [List.getElem?_map]; rw [show xs[j]? = some y from e]; rfl
theorem IxD.ok {K : PySem.W.Frag} {F H : Hp} {v w : V} {x y z : D} {Q : VK} (R : Rel K M F H) (q1 : DV K F v x) (q2 : DV K F w y) (h : IxD M x y z) (k : ∀ u, DV K F u z → Q u H) : rIx K v w H Q := by
  cases y with
  | r b => cases x <;> first | exact h.elim | (rename_i x; cases x <;> exact h.elim)
  | d y =>
    cases y with
    | int i =>
      cases dv_int' q2
      cases x with
      | d x =>
        cases x with
        | str s =>
          cases dv_str' q1
          obtain ⟨h1, c, h2, rfl⟩ := h
          exact .inr (.inr ⟨s, i, c, rfl, rfl, h1, h2, k _ dv_str⟩)
        | tuple xs =>
          obtain ⟨u, h2, rfl⟩ := h
          obtain ⟨a, vs, rfl, h3, h4⟩ := dv_tup q1
          obtain ⟨w, h5, h6⟩ := atI_fa2 (DVs.of_all h4) (atI_map h2)
          exact .inr (.inl ⟨a, vs, i, w, rfl, rfl, SqT.mono R.sub h3, h5, k _ h6⟩)
        | list xs =>
          obtain ⟨u, h2, rfl⟩ := h
          obtain ⟨a, vs, rfl, h3, h4⟩ := dv_lst q1
          obtain ⟨w, h5, h6⟩ := atI_fa2 (DVs.of_all h4) (atI_map h2)
          exact .inl ⟨a, vs, i, w, rfl, rfl, SqL.mono R.sub h3, h5, k _ h6⟩
        | _ => exact h.elim
      | r a =>
        obtain ⟨xs, h1, h2⟩ := h
        cases (show v = .ref a from q1)
        obtain ⟨u, h3, h4⟩ := R.read h1
        cases u with
        | lst vs =>
          obtain ⟨w, h5, h6⟩ := atI_fa2 (show DVs K F vs xs from h4) h2
          exact .inl ⟨a, vs, i, w, rfl, rfl, SqL.of h3, h5, k _ h6⟩
        | _ => exact h4.elim
    | _ => cases x <;> first | exact h.elim | (rename_i x; cases x <;> exact h.elim)
theorem we_ix {a b : Expr} {pos : Pos} {Q : D → MS → Prop} (hs : PlainIx b) (h : WE C a ρ M fun x M1 => WE C b ρ M1 fun y M2 => ∃ z, IxD M2 x y z ∧ Q z M2) : WE C (.Subscript a b pos) ρ M Q := .mk fun X F σ H at0 => by
  refine PE.se (pe_ix ix_seq pe_s pe_s hs) ?_
  refine h.go at0 fun v x M1 F1 H1 s1 a1 q1 h1 => h1.go a1 fun w y M2 F2 H2 s2 a2 q2 ⟨z, h2, q⟩ => ?_
  exact IxD.ok a2.rel (q1.mono s2) q2 h2 fun u hu => ⟨z, M2, F2, s1.trans s2, a2.rel, hu, q⟩

/-! ### statements -/
theorem wss_nil {E : EndD} (h : E.nx ρ M) : WSs C [] ρ M E := .mk fun X F σ H a => PSs.se pss_nil ⟨ρ, M, F, Fs.refl F, a.nm, a.sg, a.rel, h⟩
theorem wss_cons {s : Stmt} {rest : List Stmt} {E : EndD} (h : WS C s ρ M { E with nx := fun ρ' M' => WSs C rest ρ' M' E }) : WSs C (s :: rest) ρ M E := .mk fun X F σ H a => by
  refine PSs.se (pss_cons ps_s pss_s) ?_
  refine tss_mono (h X F σ H a) ⟨fun σ' H' ⟨ρ', M', F', s, n, g, r, q⟩ => ?_, fun _ _ h => h, fun _ _ h => h, fun _ _ h => h⟩
  exact tsl_mono (q X F' σ' H' ⟨a.ok.mono s, n, g, r⟩) (UpE.back s)
theorem ws_expr {e : Expr} {pos : Pos} {E : EndD} (hs : ∀ env, swapsWith e none pos.line env = pure false) (h : WE C e ρ M fun _ M1 => E.nx ρ M1) : WS C (.Expr e pos) ρ M E := .mk fun X F σ H a =>
  PS.se (ps_expr pe_s (hs X.env)) (h.go a fun _ _ M1 F1 H1 s1 a1 _ q => ⟨ρ, M1, F1, s1, a1.nm, a1.sg, a1.rel, q⟩)
theorem ws_ret {e : Expr} {pos : Pos} {E : EndD} (h : WE C e ρ M E.rt) : WS C (.Return (some e) pos) ρ M E := .mk fun X F σ H a => PS.se (ps_ret pe_s) (h X F σ H a)
theorem ws_ret0 {pos : Pos} {E : EndD} (h : E.rt (.d .none) M) : WS C (.Return none pos) ρ M E := .mk fun X F σ H a => PS.se ps_retN ⟨_, M, F, Fs.refl F, a.rel, dv_non, h⟩
theorem ws_pass {pos : Pos} {E : EndD} (h : E.nx ρ M) : WS C (.Pass pos) ρ M E := .mk fun X F σ H a => PS.se ps_pass ⟨ρ, M, F, Fs.refl F, a.nm, a.sg, a.rel, h⟩
theorem ws_break {pos : Pos} {E : EndD} (h : E.bk ρ M) : WS C (.Break pos) ρ M E := .mk fun X F σ H a => PS.se ps_break ⟨ρ, M, F, Fs.refl F, a.nm, a.sg, a.rel, h⟩
theorem ws_continue {pos : Pos} {E : EndD} (h : E.ct ρ M) : WS C (.Continue pos) ρ M E := .mk fun X F σ H a => PS.se ps_continue ⟨ρ, M, F, Fs.refl F, a.nm, a.sg, a.rel, h⟩
theorem ws_doc {x j pos pos'} {E : EndD} (h : E.nx ρ M) : WS C (.Expr (.Constant (.str x) j pos) pos') ρ M E := .mk fun X F σ H a => PS.se ps_doc ⟨ρ, M, F, Fs.refl F, a.nm, a.sg, a.rel, h⟩
theorem ws_if {c : Expr} {a b : List Stmt} {pos : Pos} {E : EndD} (h : WT C c ρ M fun k M1 => if k = true then WSs C a ρ M1 E else WSs C b ρ M1 E) : WS C (.If c a b pos) ρ M E := .mk fun X F σ H at0 => by
  refine PS.se (ps_if pt_s pss_s pss_s) ?_
  refine h.go at0 fun k M1 F1 H1 s1 a1 q => ?_
  cases k with
  | true => exact ite_tt (tsl_mono ((show WSs C a ρ M1 E from q) X F1 σ H1 a1) (UpE.back s1))
  | false => exact ite_ff (tsl_mono ((show WSs C b ρ M1 E from q) X F1 σ H1 a1) (UpE.back s1))

/-! ### targets -/
theorem ix_name {X : Cx} {F : Hp} {σ : L2.St} {H : Hp} {x : Str} (a : At C ρ M X F σ H) (h : (ρ.map (·.1)).contains x = true) : ∃ i : Nat, (ρ.map (·.1))[i]? = some x := by
  have : x ∈ ρ.map (·.1) := List.contains_iff_mem.mp h
  exact List.mem_iff_getElem?.mp this
theorem wg_name {x : Str} {pos : Pos} {d : D} {Q : Rho → MS → Prop} (hl : locB C.sc C.fnc x = true) (hx : C.N.contains x = true) (h : Q (st ρ x (some d)) M) : WG C (.Name x pos) d ρ M Q := .mk fun X F σ H v a q => by
  obtain ⟨i, hi⟩ := ix_name a (by rw [a.nm]; exact hx)
  have hN : X.N[i]? = some x := by rw [a.ok.N, ← a.nm]; exact hi
  refine PG.se (pg_name (by rw [a.ok.N]; exact a.ok.nd) hN (a.ok.loc hl).1 (a.ok.loc hl).2) ?_
  exact ⟨_, M, F, Fs.refl F, (st_names _ _ _).trans a.nm, Sg.set q a.sg (by rw [a.nm]; exact a.ok.nd) hi, a.rel, h⟩
theorem wgs_nil {Q : Rho → MS → Prop} (h : Q ρ M) : WGs C [] [] ρ M Q := .mk fun X F σ H vs a q => by
  cases q
  exact PGs.se pgs_nil ⟨rfl, ρ, M, F, Fs.refl F, a.nm, a.sg, a.rel, h⟩
theorem wgs_cons {e : Expr} {es : List Expr} {d : D} {ds : List D} {Q : Rho → MS → Prop} (hs : ∀ env, (assignEach (e :: es) env).map (·.2) = assign e env :: (assignEach es env).map (·.2)) (h : WG C e d ρ M fun ρ' M' => WGs C es ds ρ' M' Q) : WGs C (e :: es) (d :: ds) ρ M Q := .mk fun X F σ H vs a q => by
  cases q with
  | cons q1 q2 =>
    refine PGs.se (pgs_cons pg_s pgs_s (hs X.env)) ⟨_, _, rfl, ?_⟩
    refine tsg_mono (h X F σ H _ a q1) fun σ' H' ⟨ρ', M', F', s, n, g, r, q⟩ => ?_
    exact tsgs_mono (q X F' σ' H' _ ⟨a.ok.mono s, n, g, r⟩ (DVs.mono s q2)) fun _ _ z => z.back s
theorem wg_tup {es : List Expr} {k : Nat} {pos : Pos} {ds : List PyData} {Q : Rho → MS → Prop} (hc : C.calm = true) (hn : ∀ env, (assignEach es env).length = es.length) (hst : ∀ env, (assignEach es env).findIdx? (·.1) = none) (hl : ds.length = es.length)
    (h : WGs C es (ds.map D.d) ρ M Q) : WG C (.Tuple es k pos) (.d (.tuple ds)) ρ M Q := .mk fun X F σ H v a q => by
  obtain ⟨p, vs, rfl, h1, h2⟩ := dv_tup q
  refine PG.se (pg_tup (n := es.length) (a.ok.calm.trans hc) pgs_s (hn X.env) (hst X.env)) ⟨p, vs, rfl, SqT.mono a.rel.sub h1, ?_, h X F σ H vs a (DVs.of_all h2)⟩
  have := (DVs.of_all h2).length
  rw [List.length_map] at this
  omega
/-- o[i] = v by values -/
structure StD (C : Ct) (o i v : D) (M : MS) (Q : MS → Prop) : Prop where
  run : ∀ X F H vo vi vv, CtOk C X F → Rel X.K M F H → DV X.K F vo o → DV X.K F vi i → DV X.K F vv v → pse X vo vi vv H fun H' => ∃ M' F', Fs F F' ∧ Rel X.K M' F' H' ∧ Q M'
instance {C : Ct} {o i v : D} {M : MS} {Q : MS → Prop} : CoeFun (StD C o i v M Q) (fun _ => ∀ X F H vo vi vv, CtOk C X F → Rel X.K M F H → DV X.K F vo o → DV X.K F vi i → DV X.K F vv v → pse X vo vi vv H fun H' => ∃ M' F', Fs F F' ∧ Rel X.K M' F' H' ∧ Q M') := ⟨fun h => h.run⟩
theorem wg_sub {o i : Expr} {pos : Pos} {d : D} {Q : Rho → MS → Prop}
    (ha : ∀ env v, assign (.Subscript o i pos) env v = (do
      let ov ← holding [v] (eval o env)
      let iv ← holding [v, ov] (eval i env)
      standAt pos
      holding [v, ov, iv] (setItem ov iv v)
      release [v, ov, iv] []))
    (h : WE C o ρ M fun x M1 => WE C i ρ M1 fun y M2 => StD C x y d M2 fun M3 => Q ρ M3) : WG C (.Subscript o i pos) d ρ M Q := .mk fun X F σ H v a q => by
  refine PG.se (pg_sub pe_s pe_s pset_s (ha X.env)) ?_
  refine h.go a fun vo x M1 F1 H1 s1 a1 q1 h1 => h1.go a1 fun vi y M2 F2 H2 s2 a2 q2 h2 => ?_
  refine pse_mono (h2 X F2 H2 vo vi v a2.ok a2.rel (q1.mono s2) q2 ((q.mono s1).mono s2)) fun H3 ⟨M3, F3, s3, r3, z⟩ => ?_
  exact ⟨ρ, M3, F3, (s1.trans s2).trans s3, a2.nm, a2.sg.mono s3, r3, z⟩
theorem ws_asg {tg e : Expr} {pos : Pos} {E : EndD} (hs : ∀ env, env.scope = C.sc → swapsWithSole [tg] e pos.line env = pure false) (hw : ∀ env, swappedStores [tg] e env = pure none) (h1 : ∀ env, (assignEach [tg] env).map (·.2) = [assign tg env])
    (h : WE C e ρ M fun d M1 => WG C tg d ρ M1 E.nx) : WS C (.Assign [tg] e pos) ρ M E := .mk fun X F σ H a => by
  refine PS.se (ps_asg pe_s pg_s (hs X.env a.ok.sc) (hw X.env) (h1 X.env)) ?_
  exact h.go a fun v d M1 F1 H1 s1 a1 q1 h1 => tsg_mono (h1 X F1 σ H1 v a1 q1) fun _ _ z => z.back s1
/-- x op= e -/
theorem ws_aug {x : Str} {e : Expr} {op : Operator} {pos' pos : Pos} {E : EndD} {d : D} (hl : locB C.sc C.fnc x = true) (hx : lk ρ x = some d) (h : WE C e ρ M fun y M1 => OpD C (inplaceOp op) d y M1 fun z M2 => E.nx (st ρ x (some z)) M2) : WS C (.AugAssign (.Name x pos') op e pos) ρ M E := .mk fun X F σ H a => by
  obtain ⟨i, v, h1, h2, h3⟩ := a.sg.look hx
  have hN : X.N[i]? = some x := by rw [a.ok.N, ← a.nm]; exact h1
  refine PS.se (ps_aug (by rw [a.ok.N]; exact a.ok.nd) hN (a.ok.loc hl).1 pe_s (ti := rse X (inplaceOp op)) (fun pins s σ H x y v u Q I r1 r2 h => h pins s σ v u I r1 r2) (a.ok.loc hl).2) ⟨v, h2, ?_⟩
  refine h.go a fun w y M1 F1 H1 s1 a1 q1 h4 => ?_
  refine rse_mono (h4 X F1 H1 v w a1.ok a1.rel (h3.mono s1) q1) fun z H2 ⟨zd, M2, F2, s2, r2, q2, q⟩ => ?_
  exact ⟨_, M2, F2, s1.trans s2, (st_names _ _ _).trans a.nm, Sg.set q2 (a1.sg.mono s2) (by rw [a.nm]; exact a.ok.nd) h1, r2, q⟩

/-! ### loops -/
structure ItOk (X : Cx) (J : It) (ds : List D) (stay : MS → Prop) (F0 : Hp) : Prop where
  go : ∀ i M F H, i < ds.length → Fs F0 F → Rel X.K M F H → stay M → J.go i H
  yld : ∀ i M F H v H', i < ds.length → Fs F0 F → Rel X.K M F H → stay M → J.yld i H v H' → ∃ d F', ds[i]? = some d ∧ Fs F F' ∧ Rel X.K M F' H' ∧ DV X.K F' v d
  stop : ∀ i M F H, ds.length ≤ i → Fs F0 F → Rel X.K M F H → stay M → J.stop i H
structure WI (C : Ct) (tg iter : Expr) (ρ : Rho) (M : MS) (R : List D → (MS → Prop) → MS → Prop) : Prop where
  run : ∀ X F σ H, At C ρ M X F σ H → tsi X tg iter σ H fun J H' => ∃ ds stay M' F', Fs F F' ∧ Rel X.K M' F' H' ∧ ItOk X J ds stay F' ∧ R ds stay M'
instance {C : Ct} {tg iter : Expr} {ρ : Rho} {M : MS} {R : List D → (MS → Prop) → MS → Prop} : CoeFun (WI C tg iter ρ M R) (fun _ => ∀ X F σ H, At C ρ M X F σ H → tsi X tg iter σ H fun J H' => ∃ ds stay M' F', Fs F F' ∧ Rel X.K M' F' H' ∧ ItOk X J ds stay F' ∧ R ds stay M') := ⟨fun h => h.run⟩
theorem ws_for {tg iter : Expr} {body : List Stmt} {pos : Pos} {E : EndD} (hc : C.calm = true) (hs : ∀ env x, foldedSetIterable iter env x = pure x)
    (h : WI C tg iter ρ M fun ds stay M1 => ∃ W : Nat → Rho → MS → Prop, W 0 ρ M1 ∧ (∀ i ρ' M', W i ρ' M' → stay M') ∧
      (∀ i d ρ' M', ds[i]? = some d → W i ρ' M' → WG C tg d ρ' M' fun ρ2 M2 => WSs C body ρ2 M2 { nx := W (i + 1), rt := E.rt, bk := E.nx, ct := W (i + 1) }) ∧ (∀ ρ' M', W ds.length ρ' M' → E.nx ρ' M')) :
    WS C (.For tg iter body [] pos) ρ M E := .mk fun X F σ H a => by
  refine PS.se (ps_for a.ok.pass (a.ok.calm.trans hc) pi_s pg_s pss_s (hs X.env)) ?_
  refine tsi_mono (h X F σ H a) fun J H1 ⟨ds, stay, M1, F1, s1, r1, ok, W, w0, st, turn, fin⟩ => ?_
  refine ⟨fun i m σ' H' => m = ds.length - i ∧ i ≤ ds.length ∧ ∃ ρ' M' F', Fs F1 F' ∧ ρ'.map (·.1) = C.N ∧ Sg X.K F' ρ' σ' ∧ Rel X.K M' F' H' ∧ W i ρ' M', ⟨_, rfl, Nat.zero_le _, ρ, M1, F1, Fs.refl _, a.nm, a.sg.mono s1, r1, w0⟩, ?_⟩
  rintro i m σ' H' ⟨rfl, hi, ρ', M', F', s', n', g', r', w'⟩
  by_cases hlt : i < ds.length
  · refine .inr ⟨ok.go i M' F' H' hlt s' r' (st _ _ _ w'), UpS C.N X.K F' (W (i + 1)), fun σ2 H2 ⟨ρ2, M2, F2, s2, n2, g2, r2, w2⟩ => ⟨_, by omega, rfl, hlt, ρ2, M2, F2, s'.trans s2, n2, g2, r2, w2⟩, fun v H2 y => ?_⟩
    obtain ⟨d, F2, e, s2, r2, q2⟩ := ok.yld i M' F' H' v H2 hlt s' r' (st _ _ _ w') y
    refine tsg_mono (turn i d ρ' M' e w' X F2 σ' H2 v ⟨a.ok.mono ((s1.trans s').trans s2), n', g'.mono s2, r2⟩ q2) fun σ3 H3 ⟨ρ3, M3, F3, s3, n3, g3, r3, q3⟩ => ?_
    refine tsl_mono (q3 X F3 σ3 H3 ⟨a.ok.mono (((s1.trans s').trans s2).trans s3), n3, g3, r3⟩) ⟨fun _ _ z => ?_, fun _ _ z => ?_, fun _ _ z => ?_, fun _ _ z => ?_⟩
    · exact UpS.back (s2.trans s3) z
    · exact Up.back (((s1.trans s').trans s2).trans s3) z
    · exact UpS.back (((s1.trans s').trans s2).trans s3) z
    · exact UpS.back (s2.trans s3) z
  · have e : i = ds.length := by omega
    subst e
    exact .inl ⟨ok.stop _ M' F' H' (Nat.le_refl _) s' r' (st _ _ _ w'), ρ', M', F', s1.trans s', n', g', r', fin _ _ w'⟩
/-- a loop as a recursion over what is walked -/
def FL (C : Ct) (tg : Expr) (body : List Stmt) (E : EndD) : List D → Rho → MS → Prop
  | [], ρ, M => E.nx ρ M
  | d :: ds, ρ, M => WG C tg d ρ M fun ρ2 M2 => WSs C body ρ2 M2 { nx := FL C tg body E ds, rt := E.rt, bk := E.nx, ct := FL C tg body E ds }
theorem ws_forL {tg iter : Expr} {body : List Stmt} {pos : Pos} {E : EndD} (hc : C.calm = true) (hs : ∀ env x, foldedSetIterable iter env x = pure x)
    (h : WI C tg iter ρ M fun ds stay M1 => (∀ M', stay M') ∧ FL C tg body E ds ρ M1) : WS C (.For tg iter body [] pos) ρ M E := by
  refine ws_for hc hs (.mk fun X F σ H a => tsi_mono (h X F σ H a) fun J H1 ⟨ds, stay, M1, F1, s1, r1, ok, st, fl⟩ => ⟨ds, stay, M1, F1, s1, r1, ok, fun i => FL C tg body E (ds.drop i), fl, fun _ _ _ _ => st _, fun i d ρ' M' e w => ?_, fun ρ' M' w => ?_⟩)
  · have e2 : ds.drop i = d :: ds.drop (i + 1) := by
      obtain ⟨h1, h2⟩ := List.getElem?_eq_some_iff.mp e
      rw [List.drop_eq_getElem_cons h1, h2]
    have w' : FL C tg body E (ds.drop i) ρ' M' := w
    rw [e2] at w'
    exact w'
  · have w' : FL C tg body E (ds.drop ds.length) ρ' M' := w
    rw [List.drop_length] at w'
    exact w'
theorem ws_while {c : Expr} {body : List Stmt} {pos : Pos} {E : EndD} (W : Nat → Rho → MS → Prop) (m0 : Nat) (w0 : W m0 ρ M)
    (turn : ∀ m ρ' M', W m ρ' M' → WT C c ρ' M' fun b M1 => if b = true then WSs C body ρ' M1 { nx := fun ρ2 M2 => ∃ m', m' < m ∧ W m' ρ2 M2, rt := E.rt, bk := E.nx, ct := fun ρ2 M2 => ∃ m', m' < m ∧ W m' ρ2 M2 } else E.nx ρ' M1) : WS C (.While c body [] pos) ρ M E := .mk fun X F σ H a => by
  refine PS.se (ps_while a.ok.pass pt_s pss_s) ?_
  refine ⟨fun m σ' H' => ∃ ρ' M' F', Fs F F' ∧ ρ'.map (·.1) = C.N ∧ Sg X.K F' ρ' σ' ∧ Rel X.K M' F' H' ∧ W m ρ' M', ⟨m0, ρ, M, F, Fs.refl F, a.nm, a.sg, a.rel, w0⟩, ?_⟩
  rintro m σ' H' ⟨ρ', M', F', s', n', g', r', w'⟩
  refine (turn m ρ' M' w').go (⟨a.ok.mono s', n', g', r'⟩ : At C ρ' M' X F' σ' H') fun b M1 F1 H1 s1 a1 q1 => ?_
  cases b with
  | true =>
    refine ite_tt ⟨UpS C.N X.K F fun ρ2 M2 => ∃ m', m' < m ∧ W m' ρ2 M2, fun σ2 H2 ⟨ρ2, M2, F2, s2, n2, g2, r2, m', hm, w2⟩ => ⟨m', hm, ρ2, M2, F2, s2, n2, g2, r2, w2⟩, ?_⟩
    exact tsl_mono ((show WSs C body ρ' M1 _ from q1) X F1 σ' H1 a1) (UpE.back (s'.trans s1) (E := { nx := fun ρ2 M2 => ∃ m', m' < m ∧ W m' ρ2 M2, rt := E.rt, bk := E.nx, ct := fun ρ2 M2 => ∃ m', m' < m ∧ W m' ρ2 M2 }))
  | false => exact ite_ff ⟨ρ', M1, F1, s'.trans s1, a1.nm, a1.sg, a1.rel, q1⟩
end
end Y

/-! Layer Y, part D: what is walked; comprehensions; defs and their calls. -/
namespace Y
open PySem PySem.Spec PyProof.Rows L2
section
variable {C : Ct} {ρ : Rho} {M : MS}

/-! ### what is walked -/
/-- a value that is walked item by item: its items, and what must stay -/
def ItD (M : MS) (x : D) (ds : List D) (stay : MS → Prop) : Prop := match x with
  | .d (.tuple xs) => ds = xs.map D.d ∧ stay = fun _ => True
  | .d (.list xs) => ds = xs.map D.d ∧ stay = fun _ => True
  | .d (.str s) => ds = s.cps.toList.map (fun c => D.d (.str ⟨#[c]⟩)) ∧ stay = fun _ => True
  | .r a => M.m a = some (.lst ds) ∧ stay = fun M' => M'.m a = some (.lst ds)
  | _ => False
theorem itOk_lst {X : Cx} {F0 : Hp} {a : Addr} {vs : List V} {ds : List D} (h : SqL X.K F0 a vs) (q : DVs X.K F0 vs ds) : ItOk X (Itl X.K a) ds (fun _ => True) F0 where
  go := fun i M F H hi s R _ => by
    rw [← q.length] at hi
    exact ⟨vs, vs[i], SqL.mono (s.trans R.sub) h, by simp [hi]⟩
  yld := fun i M F H v H' hi s R _ ⟨e, y⟩ => by
    subst e
    have e2 := y vs (SqL.mono (s.trans R.sub) h)
    obtain ⟨d, h1, h2⟩ := q.getL e2
    exact ⟨d, F, h1, Fs.refl F, R, h2.mono s⟩
  stop := fun i M F H hi s R _ => ⟨vs, SqL.mono (s.trans R.sub) h, by rw [q.length]; exact hi⟩
theorem itOk_own {X : Cx} {F0 : Hp} {a : Addr} {ds : List D} : ItOk X (Itl X.K a) ds (fun M' => M'.m a = some (.lst ds)) F0 where
  go := fun i M F H hi s R st => by
    obtain ⟨u, h1, h2⟩ := R.read st
    cases u with
    | lst vs =>
      have q : DVs X.K F vs ds := h2
      rw [← q.length] at hi
      exact ⟨vs, vs[i], SqL.of h1, by simp [hi]⟩
    | _ => exact h2.elim
  yld := fun i M F H v H' hi s R st ⟨e, y⟩ => by
    subst e
    obtain ⟨u, h1, h2⟩ := R.read st
    cases u with
    | lst vs =>
      have q : DVs X.K F vs ds := h2
      have e2 := y vs (SqL.of h1)
      obtain ⟨d, h3, h4⟩ := q.getL e2
      exact ⟨d, F, h3, Fs.refl F, R, h4⟩
    | _ => exact h2.elim
  stop := fun i M F H hi s R st => by
    obtain ⟨u, h1, h2⟩ := R.read st
    cases u with
    | lst vs =>
      have q : DVs X.K F vs ds := h2
      exact ⟨vs, SqL.of h1, by rw [q.length]; exact hi⟩
    | _ => exact h2.elim
theorem itOk_range {X : Cx} {F0 : Hp} {lo : Int} {n : Nat} : ItOk X (Itr lo n) ((List.range n).map fun (i : Nat) => D.d (.int (lo + (i : Int)))) (fun _ => True) F0 where
  go := fun i M F H hi s R _ => by show i < n; simpa using hi
  yld := fun i M F H v H' hi s R _ ⟨e, y⟩ => by
    subst e y
    refine ⟨_, F, ?_, Fs.refl F, R, dv_int⟩
    have hi' : i < n := by simpa using hi
    simp [hi']
  stop := fun i M F H hi s R _ => by show n ≤ i; simpa using hi
theorem itOk_str {X : Cx} {F0 : Hp} {x : Str} : ItOk X (Its x) (x.cps.toList.map fun c => D.d (.str ⟨#[c]⟩)) (fun _ => True) F0 where
  go := fun i M F H hi s R _ => by show i < x.cps.size; simpa using hi
  yld := fun i M F H v H' hi s R _ ⟨e, c, h1, h2⟩ => by
    subst e h2
    refine ⟨.d (.str ⟨#[c]⟩), F, ?_, Fs.refl F, R, dv_str⟩
    rw [List.getElem?_map, Array.getElem?_toList, h1]; rfl
  stop := fun i M F H hi s R _ => by show x.cps.size ≤ i; simpa using hi

/-- for x in e, e a list, a tuple, a text -/
theorem wi_seq {tg e : Expr} {R : List D → (MS → Prop) → MS → Prop} (h : WE C e ρ M fun x M1 => ∃ ds stay, ItD M1 x ds stay ∧ R ds stay M1) : WI C tg e ρ M R := .mk fun X F σ H a => by
  intro pins s I
  refine thn (h.go (R := fun v H' => ∃ x M1 F1, Fs F F1 ∧ Rel X.K M1 F1 H' ∧ DV X.K F1 v x ∧ ∃ ds stay, ItD M1 x ds stay ∧ R ds stay M1) a (fun v d M1 F1 H1 s1 a1 q1 h1 => ⟨d, M1, F1, s1, a1.rel, q1, h1⟩) pins s I) fun u s1 ⟨v, H1, I1, r1, x, M1, F1, st1, R1, q1, ds, stay, it, hR⟩ => ?_
  have known : ∀ {J : It}, ItOk X J ds stay F1 → (fun J H' => ∃ ds stay M' F', Fs F F' ∧ Rel X.K M' F' H' ∧ ItOk X J ds stay F' ∧ R ds stay M') J H1 := fun ok => ⟨ds, stay, M1, F1, st1, R1, ok, hR⟩
  cases x with
  | d x =>
    cases x with
    | tuple xs =>
      obtain ⟨rfl, rfl⟩ := it
      obtain ⟨p, vs, rfl, h1, h2⟩ := dv_tup q1
      cases r1
      obtain ⟨its, rv, pl, hz⟩ := I1.tuple (SqT.mono R1.sub h1)
      refine wpAny_pyIter_tuple (show s1.heap.IsTuple p its.toArray from pl) ?_
      refine ⟨s1.heap.objs.size, [s1.heap.objs.size], _, _, H1, rfl, I1.kept (t' := s1.toks) fun b o e => Heap.get?_push_of_some _ e, turn_tuple p _, ⟨_, Heap.get?_push_size _ rfl, rfl, rfl⟩, fun b hb => ?_, known ?_⟩
      · have e : b = s1.heap.objs.size := by simpa using hb
        subst e
        exact I1.fpOk (Nat.le_refl _) (I1.hok.fresh (Nat.le_refl _))
      · refine ⟨fun i M F H hi s R _ => ?_, fun i M F H v H' hi s R _ ⟨e, y⟩ => ?_, fun i M F H hi s R _ => ?_⟩
        · have q := DVs.of_all h2
          rw [← q.length] at hi
          exact ⟨vs, vs[i], SqT.mono (s.trans R.sub) h1, by simp [hi]⟩
        · subst e
          have e2 := y vs (SqT.mono (s.trans R.sub) h1)
          obtain ⟨d, h3, h4⟩ := (DVs.of_all h2).getL e2
          exact ⟨d, F, h3, Fs.refl F, R, h4.mono s⟩
        · exact ⟨vs, SqT.mono (s.trans R.sub) h1, by rw [(DVs.of_all h2).length]; exact hi⟩
    | list xs =>
      obtain ⟨rfl, rfl⟩ := it
      obtain ⟨p, vs, rfl, h1, h2⟩ := dv_lst q1
      cases r1
      obtain ⟨its, rv, pl, hz⟩ := I1.list (SqL.mono R1.sub h1)
      refine wpAny_pyIter_list pl.isList ?_
      refine ⟨s1.heap.objs.size, [s1.heap.objs.size], _, _, H1, rfl, I1.kept (t' := s1.toks) fun b o e => Heap.get?_push_of_some _ e, turn_list p _, ⟨_, Heap.get?_push_size _ rfl, rfl, rfl⟩, fun b hb => ?_, known (itOk_lst h1 (DVs.of_all h2))⟩
      have e : b = s1.heap.objs.size := by simpa using hb
      subst e
      exact I1.fpOk (Nat.le_refl _) (I1.hok.fresh (Nat.le_refl _))
    | str z =>
      obtain ⟨rfl, rfl⟩ := it
      cases dv_str' q1
      obtain ⟨t, rfl⟩ := r1
      cases ha : z.cps.all (· < 128)
      · exact wpAny_pyIter_wide ha (pi_one (tk := s1.toks) I1 _ (turn_str _ z t "str_iterator" (.inr rfl)) ⟨_, Heap.get?_push_size _ rfl, rfl, rfl⟩ (known itOk_str))
      · exact wpAny_pyIter_ascii ha (pi_one (tk := s1.toks) I1 _ (turn_str _ z t "str_ascii_iterator" (.inl rfl)) ⟨_, Heap.get?_push_size _ rfl, rfl, rfl⟩ (known itOk_str))
    | _ => exact it.elim
  | r p =>
    obtain ⟨h1, rfl⟩ := it
    cases (show v = .ref p from q1)
    cases r1
    obtain ⟨u, h2, h3⟩ := R1.read h1
    cases u with
    | lst vs =>
      obtain ⟨its, rv, pl, hz⟩ := I1.list (SqL.of h2)
      refine wpAny_pyIter_list pl.isList ?_
      refine ⟨s1.heap.objs.size, [s1.heap.objs.size], _, _, H1, rfl, I1.kept (t' := s1.toks) fun b o e => Heap.get?_push_of_some _ e, turn_list p _, ⟨_, Heap.get?_push_size _ rfl, rfl, rfl⟩, fun b hb => ?_, known itOk_own⟩
      have e : b = s1.heap.objs.size := by simpa using hb
      subst e
      exact I1.fpOk (Nat.le_refl _) (I1.hok.fresh (Nat.le_refl _))
    | _ => exact h3.elim

/-- for x in range(n), range(a, b) -/
theorem wi_range1 {tg a : Expr} {p pos : Pos} {R : List D → (MS → Prop) → MS → Prop} (hm : C.g.mg "range" = none) (hg : glB C.sc "range" = true) (hs : ∀ env, starEach [a] env = [(false, eval a env)])
    (h : WE C a ρ M fun x M1 => ∃ n : Int, x = .d (.int n) ∧ n < 2 ^ 62 ∧ -(2 ^ 62) ≤ n ∧ R ((List.range n.toNat).map fun (i : Nat) => D.d (.int (i : Int))) (fun _ => True) M1) : WI C tg (.Call (.Name "range" p) [a] [] pos) ρ M R := .mk fun X F σ H at0 => by
  obtain ⟨hg, hd, hn⟩ := glB.ok hg
  refine PI.se (pi_range1 (by show X.env.scope.names.lookup _ = _; rw [at0.ok.sc]; exact hg) (by rw [at0.ok.mg]; exact hm) (pa_cons pe_s pa_nil (hs X.env)) (hs X.env)) ?_
  refine h.go at0 fun v x M1 F1 H1 s1 a1 q1 ⟨n, e, l1, l2, r⟩ => ?_
  subst e
  refine ⟨n, by rw [dv_int' q1], l2, l1, _, _, M1, F1, s1, a1.rel, itOk_range, ?_⟩
  have e : ((List.range n.toNat).map fun (i : Nat) => D.d (.int (0 + (i : Int)))) = (List.range n.toNat).map fun (i : Nat) => D.d (.int (i : Int)) := by simp
  rw [e]; exact r
theorem wi_range2 {tg a b : Expr} {p pos : Pos} {R : List D → (MS → Prop) → MS → Prop} (hm : C.g.mg "range" = none) (hg : glB C.sc "range" = true) (hs : ∀ env, starEach [a, b] env = [(false, eval a env), (false, eval b env)]) (hs2 : ∀ env, starEach [b] env = [(false, eval b env)])
    (h : WE C a ρ M fun x M1 => WE C b ρ M1 fun y M2 => ∃ lo n : Int, x = .d (.int lo) ∧ y = .d (.int n) ∧ (-(2 ^ 62) ≤ lo ∧ lo < 2 ^ 62 ∧ -(2 ^ 62) ≤ n ∧ n < 2 ^ 62) ∧ R ((List.range (n - lo).toNat).map fun (i : Nat) => D.d (.int (lo + (i : Int)))) (fun _ => True) M2) :
    WI C tg (.Call (.Name "range" p) [a, b] [] pos) ρ M R := .mk fun X F σ H at0 => by
  obtain ⟨hg, hd, hn⟩ := glB.ok hg
  refine PI.se (pi_range2 (by show X.env.scope.names.lookup _ = _; rw [at0.ok.sc]; exact hg) (by rw [at0.ok.mg]; exact hm) (pa_cons pe_s (pa_cons pe_s pa_nil (hs2 X.env)) (by rw [hs, hs2])) (hs X.env) (hs2 X.env)) ?_
  refine h.go at0 fun v x M1 F1 H1 s1 a1 q1 h1 => h1.go a1 fun w y M2 F2 H2 s2 a2 q2 ⟨lo, n, e, e', l, r⟩ => ?_
  subst e e'
  exact ⟨lo, n, by rw [dv_int' q1, dv_int' q2], l, _, _, M2, F2, s1.trans s2, a2.rel, itOk_range, r⟩

/-! ### comprehensions -/
def ownOf (N : List Str) (scope : Scope) : List (Str × Nat) := scope.names.filterMap fun y => match y.2 with | .local => if N.contains y.1 then some (y.1, N.idxOf y.1) else none | .cell => if N.contains y.1 then some (y.1, N.idxOf y.1) else none | _ => none
def wipeR (ρ : Rho) : List Str → Rho
  | [] => ρ
  | x :: xs => st (wipeR ρ xs) x none
theorem wipeR_names (ρ : Rho) : ∀ xs : List Str, (wipeR ρ xs).map (·.1) = ρ.map (·.1)
  | [] => rfl
  | x :: xs => (st_names _ _ _).trans (wipeR_names ρ xs)
theorem Sg.wipe {K : PySem.W.Frag} {F : Hp} {N : List Str} {σ : L2.St} (g : Sg K F ρ σ) (hn : ρ.map (·.1) = N) (nd : N.Nodup) : ∀ own : List (Str × Nat), (∀ p ∈ own, N[p.2]? = some p.1) → Sg K F (wipeR ρ (own.map (·.1))) (wipe σ (own.map (·.2)))
  | [], _ => g
  | p :: own, h => by
    have ih := Sg.wipe g hn nd own fun q hq => h q (List.mem_cons_of_mem _ hq)
    exact Sg.unset ih (by rw [wipeR_names, hn]; exact nd) (by rw [wipeR_names, hn]; exact h p List.mem_cons_self)
/-- the context of a comprehension's block -/
def Ct.blk (C : Ct) (scope : Scope) : Ct := { C with sc := relS scope C.sc, fnc := false, E := fun _ _ _ _ => False, hot := none }
theorem takesF {X : Cx} {N : List Str} {K : PySem.W.Frag} {F : Hp} : Takes X (LEs N K F fun _ _ _ _ => False) := fun u s' x => by
  obtain ⟨_, _, _, _, _, _, _, _, _, _, _, _, _, _, _, _, _, _, _, _, _, _, _, _, _, z⟩ := x
  exact z.elim
theorem blk_ok {X : Cx} {F : Hp} {scope : Scope} (k : CtOk C X F) (s : Shared) (H : Hp) (cl : List (Str × Addr)) (cc : Addr) (fp : List Addr) : CtOk (C.blk scope) (X.blk s H scope (compEnvC scope cl cc X.env) fp) F where
  P := k.P
  w := k.w
  K := k.K
  mg := k.mg
  base := k.base
  sc := by
    show relS scope X.env.scope = relS scope C.sc
    rw [k.sc]
  N := k.N
  nd := k.nd
  calm := k.calm
  room := k.room
  fn := fun h => by cases h
  pass := PassesOwn.never
  takes := takesF
  stk := fun h => by cases h
  hot := trivial
theorem NewL.at {K : PySem.W.Frag} {F0 F H : Hp} {Q : D → MS → Prop} {xs : List D} {p : Addr} (n : NewL Q M xs) (s : Fs F0 F) (R : Rel K (M.put p (.lst xs)) F H) (hp : M.m p = none) : Up K F0 Q (.ref p) H := by
  rcases n with h | ⟨ds, rfl, h⟩
  · exact ⟨.r p, _, F, s, R, rfl, h p hp⟩
  · obtain ⟨F', s', R', q⟩ := R.freeze MS.put_same
    rw [MS.put_del hp] at R'
    exact ⟨.d (.list ds), M, F', s.trans s', R', q, h⟩
def WTs (C : Ct) (ifs : List Expr) (ρ : Rho) (M : MS) (Q : Bool → MS → Prop) : Prop := match ifs with
  | [] => Q true M
  | [c] => WT C c ρ M Q
  | _ => False
theorem set_none_comm {σ : L2.St} {i : Nat} {o : Option V} : ∀ (vs : List Nat), i ∈ vs → wipe (σ.set i o) vs = wipe σ vs
  | [], h => nomatch h
  | v :: vs, h => by
    show (wipe (σ.set i o) vs).set v none = (wipe σ vs).set v none
    by_cases hv : i ∈ vs
    · rw [set_none_comm vs hv]
    · have e : i = v := by
        rcases List.mem_cons.mp h with e | e
        · exact e
        · exact absurd e hv
      subst e
      have : wipe (σ.set i o) vs = (wipe σ vs).set i o := by
        clear h
        induction vs with
        | nil => rfl
        | cons w ws ih =>
          have hw : i ≠ w := fun z => hv (by simp [z])
          show (wipe (σ.set i o) ws).set w none = ((wipe σ ws).set w none).set i o
          rw [ih (fun z => hv (List.mem_cons_of_mem _ z)), List.set_comm _ _ hw]
      rw [this, List.set_set]
theorem wipe_wipe {σ : L2.St} : ∀ (vs : List Nat), wipe (wipe σ vs) vs = wipe σ vs := fun vs => by
  have key : ∀ (ws us : List Nat), (∀ i ∈ ws, i ∈ us) → ∀ σ : L2.St, wipe (wipe σ ws) us = wipe σ us := by
    intro ws
    induction ws with
    | nil => intro us _ σ; rfl
    | cons w ws ih =>
      intro us h σ
      show wipe ((wipe σ ws).set w none) us = _
      rw [set_none_comm us (h w List.mem_cons_self)]
      exact ih us (fun i hi => h i (List.mem_cons_of_mem _ hi)) σ
  exact key vs vs (fun _ h => h) σ
theorem ownOf_ix {N : List Str} {sc scope : Scope} (h : blkC N sc scope (ownOf N scope) = true) : BlkOk N sc scope (ownOf N scope) := blkOk_by h
/-- the targets of a comprehension: names, or a tuple of names -/
inductive TgN : Expr → List Str → Prop
  | one {x pos} : TgN (.Name x pos) [x]
  | two {x y px py k pos} : TgN (.Tuple [.Name x px, .Name y py] k pos) [x, y]
  | three {x y z px py pz k pos} : TgN (.Tuple [.Name x px, .Name y py, .Name z pz] k pos) [x, y, z]
/-- what the item gives the names -/
inductive TgV : List Str → D → Rho → Rho → Prop
  | one {x d ρ} : TgV [x] d ρ (st ρ x (some d))
  | two {x y a b ρ} : TgV [x, y] (.d (.tuple [a, b])) ρ (st (st ρ x (some (.d a))) y (some (.d b)))
  | three {x y z a b c ρ} : TgV [x, y, z] (.d (.tuple [a, b, c])) ρ (st (st (st ρ x (some (.d a))) y (some (.d b))) z (some (.d c)))
theorem tg_ok {tg : Expr} {xs : List Str} {scope : Scope} {X : Cx} {N : List Str} {own : List Nat} (tn : TgN tg xs) (hXN : X.N = N) (nd : N.Nodup) (hcalm : X.calm = true)
    (hloc : ∀ x ∈ xs, ∃ i, N[i]? = some x ∧ i ∈ own ∧ (relS scope X.env.scope).names.lookup x = some .local) :
    ∃ g : TG, (∀ (s : Shared) (H : Hp) (C' : Addr) (cl : List (Str × Addr)) (fp : List Addr), PG (X.blk s H scope (compEnvC scope cl C' X.env) fp) tg g) ∧
      ∀ (ρw ρ' : Rho) (σw : L2.St) (F H : Hp) (d : D) (v : V) (Q : L2.St → Hp → Prop), TgV xs d ρw ρ' → ρw.map (·.1) = N → Sg X.K F ρw σw → Fs F H → DV X.K F v d → (∀ σ', Sg X.K F ρ' σ' → ρ'.map (·.1) = N → wipe σ' own = wipe σw own → Q σ' H) → g v σw H Q := by
  have pgn : ∀ {x : Str} {px : Pos} {i : Nat} (s : Shared) (H : Hp) (C' : Addr) (cl : List (Str × Addr)) (fp : List Addr), N[i]? = some x → (relS scope X.env.scope).names.lookup x = some .local → PG (X.blk s H scope (compEnvC scope cl C' X.env) fp) (.Name x px) (gName i) := fun s H C' cl fp h1 h2 =>
    pg_name (X := X.blk s H scope (compEnvC scope cl C' X.env) fp) (by show X.N.Nodup; rw [hXN]; exact nd) (by show X.N[_]? = _; rw [hXN]; exact h1) (.inl h2) (.inr h2)
  cases tn with
  | @one x pos =>
    obtain ⟨i, h1, h2, h3⟩ := hloc x (by simp)
    refine ⟨gName i, fun s H C' cl fp => pgn s H C' cl fp h1 h3, fun ρw ρ' σw F H d v Q tv hn sg fs q k => ?_⟩
    cases tv
    exact k _ (Sg.set q sg (by rw [hn]; exact nd) (by rw [hn]; exact h1)) ((st_names _ _ _).trans hn) (set_none_comm _ h2)
  | @two x y px py kk pos =>
    obtain ⟨i, h1, h2, h3⟩ := hloc x (by simp)
    obtain ⟨j, g1, g2, g3⟩ := hloc y (by simp)
    refine ⟨gTup X.K 2 (gCons (gName i) (gCons (gName j) gNil)), fun s H C' cl fp => pg_tup (X := X.blk s H scope (compEnvC scope cl C' X.env) fp) hcalm (pgs_cons (pgn s H C' cl fp h1 h3) (pgs_cons (pgn s H C' cl fp g1 g3) pgs_nil)), fun ρw ρ' σw F H d v Q tv hn sg fs q k => ?_⟩
    cases tv with
    | @two _ _ a b _ =>
    obtain ⟨p, vs, rfl, q1, q2⟩ := dv_tup q
    cases q2 with
    | cons qa q2 =>
    cases q2 with
    | cons qb q2 =>
    cases q2
    refine ⟨p, _, rfl, SqT.mono fs q1, rfl, _, _, rfl, _, _, rfl, rfl, ?_⟩
    refine k _ (Sg.set (d := .d b) qb (Sg.set (d := .d a) qa sg (by rw [hn]; exact nd) (by rw [hn]; exact h1)) ?_ ?_) ?_ ?_
    · rw [st_names, hn]; exact nd
    · rw [st_names, hn]; exact g1
    · rw [st_names, st_names, hn]
    · rw [set_none_comm _ g2, set_none_comm _ h2]
  | @three x y z px py pz kk pos =>
    obtain ⟨i, h1, h2, h3⟩ := hloc x (by simp)
    obtain ⟨j, g1, g2, g3⟩ := hloc y (by simp)
    obtain ⟨l, l1, l2, l3⟩ := hloc z (by simp)
    refine ⟨gTup X.K 3 (gCons (gName i) (gCons (gName j) (gCons (gName l) gNil))), fun s H C' cl fp => pg_tup (X := X.blk s H scope (compEnvC scope cl C' X.env) fp) hcalm (pgs_cons (pgn s H C' cl fp h1 h3) (pgs_cons (pgn s H C' cl fp g1 g3) (pgs_cons (pgn s H C' cl fp l1 l3) pgs_nil))), fun ρw ρ' σw F H d v Q tv hn sg fs q k => ?_⟩
    cases tv with
    | @three _ _ _ a b c _ =>
    obtain ⟨p, vs, rfl, q1, q2⟩ := dv_tup q
    cases q2 with
    | cons qa q2 =>
    cases q2 with
    | cons qb q2 =>
    cases q2 with
    | cons qc q2 =>
    cases q2
    refine ⟨p, _, rfl, SqT.mono fs q1, rfl, _, _, rfl, _, _, rfl, _, _, rfl, rfl, ?_⟩
    refine k _ (Sg.set (d := .d c) qc (Sg.set (d := .d b) qb (Sg.set (d := .d a) qa sg (by rw [hn]; exact nd) (by rw [hn]; exact h1)) ?_ ?_) ?_ ?_) ?_ ?_
    · rw [st_names, hn]; exact nd
    · rw [st_names, hn]; exact g1
    · rw [st_names, st_names, hn]; exact nd
    · rw [st_names, st_names, hn]; exact l1
    · rw [st_names, st_names, st_names, hn]
    · rw [set_none_comm _ l2, set_none_comm _ g2, set_none_comm _ h2]
theorem lc_sem {tg elt iter : Expr} {ifs : List Expr} {scope : Scope} {xs : List Str} {Q : D → MS → Prop} {X : Cx} {F : Hp} {σ : L2.St} {H : Hp} {Rp : VK} (at0 : At C ρ M X F σ H) (hc : C.calm = true) (hN : blkC C.N C.sc scope (ownOf C.N scope) = true)
    (tn : TgN tg xs) (hx : xs.all (fun x => ((ownOf C.N scope).map (·.1)).contains x && locB (relS scope C.sc) false x) = true)
    (h : WI C tg iter ρ M fun ds stay M1 => ∃ J : Nat → List D → Prop, J 0 [] ∧ (∀ M', M1.le M' → stay M') ∧
      (∀ i d acc M', ds[i]? = some d → J i acc → M1.le M' → ∃ ρ', TgV xs d (wipeR ρ ((ownOf C.N scope).map (·.1))) ρ' ∧ WTs (C.blk scope) ifs ρ' M' fun b M3 => M3 = M' ∧ if b = true then WE (C.blk scope) elt ρ' M' fun y M4 => M4 = M' ∧ acc.length < sizeLine ∧ J (i + 1) (acc ++ [y]) else J (i + 1) acc) ∧
      (∀ acc, J ds.length acc → NewL Q M1 acc))
    (k : ∀ v H', Up X.K F Q v H' → Rp v H') :
    ∃ g tt te, (∀ (s : Shared) (H : Hp) (C' : Addr) (cl : List (Str × Addr)) (fp : List Addr), PG (X.blk s H scope (compEnvC scope cl C' X.env) fp) tg g) ∧ (∀ (s : Shared) (H : Hp) (C' : Addr) (cl : List (Str × Addr)) (fp : List Addr), PTs (X.blk s H scope (compEnvC scope cl C' X.env) fp) ifs tt) ∧
      (∀ (s : Shared) (H : Hp) (C' : Addr) (cl : List (Str × Addr)) (fp : List Addr), PE (X.blk s H scope (compEnvC scope cl C' X.env) fp) elt te) ∧ tLc (tsi X tg iter) g tt te ((ownOf C.N scope).map (·.2)) σ H Rp := by
  have bo := ownOf_ix hN
  have hix : ∀ p ∈ ownOf C.N scope, C.N[p.2]? = some p.1 := bo.ix
  have hXN : X.N = C.N := at0.ok.N
  have hloc : ∀ x ∈ xs, ∃ i, C.N[i]? = some x ∧ i ∈ (ownOf C.N scope).map (·.2) ∧ (relS scope X.env.scope).names.lookup x = some .local := fun x hx' => by
    have := List.all_eq_true.mp hx x hx'
    simp only [Bool.and_eq_true] at this
    obtain ⟨h1, h2⟩ := this
    have h1' := List.contains_iff_mem.mp h1
    obtain ⟨p, hp, rfl⟩ := List.mem_map.mp h1'
    refine ⟨p.2, hix p hp, List.mem_map.mpr ⟨p, hp, rfl⟩, ?_⟩
    rw [at0.ok.sc]
    exact (locB.ok h2).2.resolve_left (by simp)
  obtain ⟨g, hg, hgo⟩ := tg_ok (X := X) (own := (ownOf C.N scope).map (·.2)) tn hXN at0.ok.nd (at0.ok.calm.trans hc) hloc
  refine ⟨g, (fun σ H Q => ∀ (s : Shared) (H0 : Hp) (C' : Addr) (cl : List (Str × Addr)) (fp : List Addr), ∀ pins s', Inv (X.blk s H0 scope (compEnvC scope cl C' X.env) fp) pins σ H s' →
      wpAny (model X.prog X.w) X.A (forIn ifs true fun c r => if r = true then do let ok ← isTrue c (compEnvC scope cl C' X.env) (eval c (compEnvC scope cl C' X.env)); pure (ForInStep.yield ok) else pure (ForInStep.yield r)) (TP (X.blk s H0 scope (compEnvC scope cl C' X.env) fp) pins σ Q) (fun _ _ => False) s'),
    (fun σ H Q => ∀ (s : Shared) (H0 : Hp) (C' : Addr) (cl : List (Str × Addr)) (fp : List Addr), tse (X.blk s H0 scope (compEnvC scope cl C' X.env) fp) elt σ H Q), hg, fun s H C' cl fp => ⟨fun pins s' σ H' Q I q => q s H C' cl fp pins s' I⟩, fun s H C' cl fp => ⟨fun pins s' σ H' Q I q => q s H C' cl fp pins s' I⟩, ?main⟩
  refine tsi_mono (h X F σ H at0) fun I H1 ⟨ds, stay, M1, F1, s1, r1, ok, J, j0, st0, turn, fin⟩ => fun Dl hD => ?_
  obtain ⟨hF1, hM1⟩ := r1.free hD
  have lePut : ∀ acc, M1.le (M1.put Dl (.lst acc)) := fun acc => (MS.le.refl M1).put hM1
  refine ⟨fun i m H' => m = ds.length - i ∧ i ≤ ds.length ∧ ∃ acc F', Fs F1 F' ∧ Rel X.K (M1.put Dl (.lst acc)) F' H' ∧ J i acc, ⟨_, rfl, Nat.zero_le _, [], F1, Fs.refl _, r1.new (o := .lst []) hD .nil, j0⟩, ?_⟩
  rintro i m H' ⟨rfl, hi, acc, F', s', r', jj⟩
  by_cases hlt : i < ds.length
  · refine .inr ⟨ok.go i _ F' H' hlt s' r' (st0 _ (lePut acc)), fun H2 => ∃ acc2 F2, Fs F1 F2 ∧ Rel X.K (M1.put Dl (.lst acc2)) F2 H2 ∧ J (i + 1) acc2, fun H2 ⟨acc2, F2, s2, r2, j2⟩ => ⟨_, by omega, rfl, hlt, acc2, F2, s2, r2, j2⟩, fun v H2 y => ?_⟩
    obtain ⟨d, F2, e, s2, r2, q2⟩ := ok.yld i _ F' H' v H2 hlt s' r' (st0 _ (lePut acc)) y
    obtain ⟨ρ', tv, tt⟩ := turn i d acc _ e jj (lePut acc)
    have sgw := Sg.wipe (at0.sg.mono ((s1.trans s').trans s2)) at0.nm at0.ok.nd (ownOf C.N scope) hix
    refine hgo _ ρ' _ F2 H2 d v _ tv ((wipeR_names _ _).trans at0.nm) sgw r2.sub q2 fun σ' sg' nm' hw => ⟨?_, ?_⟩
    · rw [hw, wipe_wipe]
    -- the tests, then the element
    have ok2 : CtOk C X F2 := at0.ok.mono ((s1.trans s').trans s2)
    have elem : ∀ (F3 : Hp) (H3 : Hp), Fs F2 F3 → Rel X.K (M1.put Dl (.lst acc)) F3 H3 → (WE (C.blk scope) elt ρ' (M1.put Dl (.lst acc)) fun y M4 => M4 = (M1.put Dl (.lst acc)) ∧ acc.length < sizeLine ∧ J (i + 1) (acc ++ [y])) →
        ∀ (s : Shared) (H0 : Hp) (C' : Addr) (cl : List (Str × Addr)) (fp : List Addr), tse (X.blk s H0 scope (compEnvC scope cl C' X.env) fp) elt σ' H3 fun y H4 => ∃ acc', H4 Dl = some (.lst acc') ∧ acc'.length < sizeLine ∧ ∃ acc2 F2, Fs F1 F2 ∧ Rel X.K (M1.put Dl (.lst acc2)) F2 (upd H4 Dl (.lst (acc' ++ [y]))) ∧ J (i + 1) acc2 := fun F3 H3 s3 r3 we s H0 C' cl fp => by
      refine we.go (⟨(blk_ok (ok2.mono s3) s H0 cl C' fp), nm', sg'.mono s3, r3⟩ : At (C.blk scope) ρ' _ _ F3 σ' H3) fun w y M4 F4 H4 s4 a4 q4 ⟨e4, z4, j4⟩ => ?_
      subst e4
      obtain ⟨u, hu, mk⟩ := a4.rel.read MS.put_same
      cases u with
      | lst vs =>
        have mk' : DVs X.K F4 vs acc := mk
        refine ⟨vs, hu, by rw [mk'.length]; exact z4, acc ++ [y], F4, ((s'.trans s2).trans s3).trans s4, ?_, j4⟩
        have := a4.rel.write (o' := .lst (acc ++ [y])) (u := .lst (vs ++ [w])) MS.put_same (mk'.append (.cons q4 .nil))
        rw [MS.put_put] at this
        exact this
      | _ => exact mk.elim
    match ifs, tt with
    | [], tt =>
      obtain ⟨_, tt⟩ : _ ∧ _ := tt
      rw [if_pos rfl] at tt
      intro s H0 C' cl fp pins s9 I
      refine wpAny_tests_nil ⟨H2, I, ?_⟩
      exact ite_tt (elem F2 H2 (Fs.refl _) r2 tt)
    | [c], tt =>
      intro s H0 C' cl fp pins s9 I
      refine wpAny_tests_one ?_
      refine (show WT (C.blk scope) c ρ' _ _ from tt).go (X := X.blk s H0 scope (compEnvC scope cl C' X.env) fp) (⟨(blk_ok ok2 s H0 cl C' fp), nm', sg', r2⟩ : At (C.blk scope) ρ' _ _ F2 σ' H2) (fun b M3 F3 H3 s3 a3 ⟨e3, q3⟩ => ?_) pins s9 I
      subst e3
      cases b with
      | true =>
        rw [if_pos rfl] at q3
        exact ite_tt (elem F3 H3 s3 a3.rel q3)
      | false =>
        rw [if_neg (by decide)] at q3
        exact ite_ff ⟨acc, F3, (s'.trans s2).trans s3, a3.rel, q3⟩
    | _ :: _ :: _, tt => exact tt.elim
  · have e : i = ds.length := by omega
    subst e
    exact .inl ⟨ok.stop _ _ F' H' (Nat.le_refl _) s' r' (st0 _ (lePut acc)), k _ _ ((fin acc jj).at (s1.trans s') r' hM1)⟩
theorem we_lc {tg elt iter : Expr} {ifs : List Expr} {scope : Scope} {xs : List Str} {pos : Pos} {Q : D → MS → Prop} (hc : C.calm = true) (hN : blkC C.N C.sc scope (ownOf C.N scope) = true)
    (tn : TgN tg xs) (hx : xs.all (fun x => ((ownOf C.N scope).map (·.1)).contains x && locB (relS scope C.sc) false x) = true) (hs : ∀ env x, foldedSetIterable iter env x = pure x)
    (h : WI C tg iter ρ M fun ds stay M1 => ∃ J : Nat → List D → Prop, J 0 [] ∧ (∀ M', M1.le M' → stay M') ∧
      (∀ i d acc M', ds[i]? = some d → J i acc → M1.le M' → ∃ ρ', TgV xs d (wipeR ρ ((ownOf C.N scope).map (·.1))) ρ' ∧ WTs (C.blk scope) ifs ρ' M' fun b M3 => M3 = M' ∧ if b = true then WE (C.blk scope) elt ρ' M' fun y M4 => M4 = M' ∧ acc.length < sizeLine ∧ J (i + 1) (acc ++ [y]) else J (i + 1) acc) ∧
      (∀ acc, J ds.length acc → NewL Q M1 acc)) : WE C (.ListComp elt [⟨tg, iter, ifs, 0⟩] scope pos) ρ M Q := .mk fun X F σ H at0 => by
  obtain ⟨g, tt, te, h1, h2, h3, h4⟩ := lc_sem (Rp := Up X.K F Q) at0 hc hN tn hx h fun _ _ z => z
  have nm : X.N = C.N := at0.ok.N
  refine PE.se (pe_lc (own := ownOf C.N scope) (at0.ok.calm.trans hc) (by rw [nm]; exact at0.ok.nd) pi_s (by rw [nm, at0.ok.sc]; exact ownOf_ix hN) h1 h2 h3 (hs X.env)) h4
theorem ws_lc {tg elt iter : Expr} {ifs : List Expr} {scope : Scope} {xs : List Str} {y : Str} {py pos spos : Pos} {E : EndD} (hc : C.calm = true) (hN : blkC C.N C.sc scope (ownOf C.N scope) = true)
    (tn : TgN tg xs) (hx : xs.all (fun x => ((ownOf C.N scope).map (·.1)).contains x && locB (relS scope C.sc) false x) = true) (hs : ∀ env x, foldedSetIterable iter env x = pure x)
    (hk : C.sc.kind = .function) (hy : C.sc.names.lookup y = some .local) (hyN : C.N.contains y = true) (hl : (py.line == pos.line) = true) (ha : (scope.names.any fun (n, k) => n == y && (k == .local || k == .cell)) = false)
    (h : WI C tg iter ρ M fun ds stay M1 => ∃ J : Nat → List D → Prop, J 0 [] ∧ (∀ M', M1.le M' → stay M') ∧
      (∀ i d acc M', ds[i]? = some d → J i acc → M1.le M' → ∃ ρ', TgV xs d (wipeR ρ ((ownOf C.N scope).map (·.1))) ρ' ∧ WTs (C.blk scope) ifs ρ' M' fun b M3 => M3 = M' ∧ if b = true then WE (C.blk scope) elt ρ' M' fun y M4 => M4 = M' ∧ acc.length < sizeLine ∧ J (i + 1) (acc ++ [y]) else J (i + 1) acc) ∧
      (∀ acc, J ds.length acc → NewL (fun d M2 => E.nx (st ρ y (some d)) M2) M1 acc)) : WS C (.Assign [.Name y py] (.ListComp elt [⟨tg, iter, ifs, 0⟩] scope pos) spos) ρ M E := .mk fun X F σ H at0 => by
  obtain ⟨i, hi⟩ := ix_name at0 (by rw [at0.nm]; exact hyN)
  have nm : X.N = C.N := at0.ok.N
  have hXi : X.N[i]? = some y := by rw [nm, ← at0.nm]; exact hi
  obtain ⟨g, tt, te, h1, h2, h3, h4⟩ := lc_sem (Rp := fun x H1 => gName i x σ H1 (UpS C.N X.K F E.nx)) at0 hc hN tn hx h fun v H' ⟨d, M', F', s', r', q, z⟩ => ⟨_, M', F', s', (st_names _ _ _).trans at0.nm, Sg.set q (at0.sg.mono s') (by rw [at0.nm]; exact at0.ok.nd) hi, r', z⟩
  have hy' : X.env.scope.names.lookup y = some .local := by rw [at0.ok.sc]; exact hy
  exact PS.se (ps_setLc (own := ownOf C.N scope) (at0.ok.calm.trans hc) (by rw [nm]; exact at0.ok.nd) hXi hy' (sw_true (by rw [at0.ok.sc]; exact hk) hy' hl ha) pi_s (by rw [nm, at0.ok.sc]; exact ownOf_ix hN) h1 h2 h3 (hs X.env)) h4
end
end Y

/-! Layer Y, part E: defs and their calls. -/
namespace Y
open PySem PySem.Spec PyProof.Rows L2

/-- a promise over data: arguments, state, what follows, what is raised -/
abbrev SpD := List D → MS → (D → MS → Prop) → XD → Prop
def toSp (g : GD) (sp : SpD) : Sp := fun vs H Q E => ∃ ds M F Qd Ed, Rel g.K M F H ∧ DVs g.K F vs ds ∧ sp ds M Qd Ed ∧ (∀ v H', Up g.K F Qd v H' → Q v H') ∧ ∀ c d H', LE g.K F Ed c d H' → E c d H'
def FdOf (x qual : Str) (st : Stmt) (fd : FuncData) : Prop := ∃ (kV doc pm : Value) (an : Option Addr) (cdv ct : Value), fd = PySem.W.fnOf x qual (defArgs st) (defBody st) (defScope st) .none kV doc pm an cdv ct
structure DefAt (g : GD) (k : Nat) (x qual : Str) (st : Stmt) (ps : List Str) (sp : SpD) (f : Addr) (fd : FuncData) : Prop where
  kp : PySem.W.keepIn g.K (.ref f) = true
  fdo : FdOf x qual st fd
  bd : L2.Binds g.K fd ps []
  ok : FnOk g.P g.w g.K g.mg g.base (L2.CX g.P g.w) k f fd ps (toSp g sp)
/-- the def named x of the module keeps the promise sp -/
def DefOk (g : GD) (k : Nat) (x qual : Str) (st : Stmt) (ps : List Str) (sp : SpD) : Prop := ∃ f fd, g.mg x = some (.ref f) ∧ DefAt g k x qual st ps sp f fd

def cxD (g : GD) (st : Stmt) (N : List Str) (k : Nat) (E : XD) : Ct := { g := g, sc := defScope st, N := N, k := k, calm := true, fnc := true, E := fun c fs _ m => E c fs m }
def startD : List Str → List D → Rho
  | [], _ => []
  | n :: N, [] => (n, none) :: startD N []
  | n :: N, d :: ds => (n, some d) :: startD N ds
theorem startD_names : ∀ (N : List Str) (ds : List D), (startD N ds).map (·.1) = N
  | [], _ => rfl
  | n :: N, [] => by show n :: (startD N []).map (·.1) = _; rw [startD_names N []]
  | n :: N, d :: ds => by show n :: (startD N ds).map (·.1) = _; rw [startD_names N ds]
theorem startD_none {K : PySem.W.Frag} {F : Hp} : ∀ N : List Str, Sg K F (startD N []) (List.replicate N.length none)
  | [] => .nil
  | _ :: N => .non (startD_none N)
theorem startD_sg {K : PySem.W.Frag} {F : Hp} : ∀ {N : List Str} {ds : List D} {vs : List V}, DVs K F vs ds → ds.length ≤ N.length → Sg K F (startD N ds) (vs.map some ++ List.replicate (N.length - vs.length) none)
  | [], [], _, .nil, _ => .nil
  | [], _ :: _, _, _, h => by simp at h
  | n :: N, [], _, .nil, _ => by simpa using startD_none (n :: N)
  | n :: N, d :: ds, v :: vs, .cons q t, h => by
    have ih := startD_sg (N := N) t (by simpa using h)
    have e : (n :: N).length - (v :: vs).length = N.length - vs.length := by simp
    rw [e]
    exact .som q ih
theorem def_at {g : GD} {x qual : Str} {st : Stmt} {f : Addr} {fd : FuncData} {N ps : List Str} {k : Nat} {sp : SpD} (Fn : Fun g.K x qual st f fd) (S : FnScope N ps (defScope st)) (hb : L2.Binds g.K fd ps [])
    (len : ∀ ds M Q E, sp ds M Q E → ds.length = ps.length) (body : ∀ ds M Q E, sp ds M Q E → WSs (cxD g st N k E) (defBody st) (startD N ds) M { nx := fun _ M' => Q (.d .none) M', rt := Q }) : DefAt g (k + 1) x qual st ps sp f fd := by
  refine ⟨Fn.kp, ?_, hb, Fun.okX Fn S (fun vs H Q E h => ?_) (fun cdv A outer s H vs Q E hr h => ?_)⟩
  · obtain ⟨oc, od, kV, doc, pm, an, cdv, ct, osl, e, _, _⟩ := Fn.ex
    exact ⟨kV, doc, pm, an, cdv, ct, e⟩
  · obtain ⟨ds, M, F, Qd, Ed, R, q, h, _, _⟩ := h
    rw [q.length]; exact len _ _ _ _ h
  · obtain ⟨ds, M, F, Qd, Ed, R, q, h, kQ, kE⟩ := h
    refine ⟨_, pss_s, ?_⟩
    have hlen : ds.length ≤ N.length := by
      have h1 := len _ _ _ _ h
      have h2 := S.pre
      have h3 : (N.take ps.length).length = ps.length := by rw [h2]
      rw [List.length_take] at h3
      omega
    have ok : CtOk (cxD g st N k Ed) (cxOf (L2.CX g.P g.w) g.P g.w g.K g.mg g.base N qual (defScope st) f cdv A outer s H E) F := by
      refine ⟨rfl, rfl, rfl, rfl, rfl, rfl, rfl, S.nd, rfl, fun _ => hr, fun _ _ => rfl, ?_, ?_, fun _ => ⟨rfl, rfl⟩, trivial⟩
      · exact passes_of (K := fun e s' => L2.CX g.P g.w outer H s E e s') rfl
      · exact (takes_of (X := cxOf (L2.CX g.P g.w) g.P g.w g.K g.mg g.base N qual (defScope st) f cdv A outer s H E) (E := E) rfl rfl rfl rfl).imp fun c d _ H' ⟨_, M2, F2, fs2, z1, _, _, z2, z3, z4⟩ => kE c d H' ⟨M2, F2, fs2, z1, z2, z3, z4⟩
    refine tsl_mono (body ds M Qd Ed h _ F (start N vs) H ⟨ok, startD_names N ds, startD_sg q hlen, R⟩) ⟨fun σ' H' ⟨ρ', M', F', s', n', g', r', z⟩ => kQ _ _ ⟨_, M', F', s', r', dv_non, z⟩, fun v H' z => kQ _ _ z, fun _ _ ⟨_, _, _, _, _, _, _, z⟩ => z, fun _ _ ⟨_, _, _, _, _, _, _, z⟩ => z⟩

theorem def_ok {g : GD} {x qual : Str} {st : Stmt} {f : Addr} {fd : FuncData} {N ps : List Str} {k : Nat} {sp : SpD} (Fn : Fun g.K x qual st f fd) (hm : g.mg x = some (.ref f)) (S : FnScope N ps (defScope st)) (hb : L2.Binds g.K fd ps [])
    (len : ∀ ds M Q E, sp ds M Q E → ds.length = ps.length) (body : ∀ ds M Q E, sp ds M Q E → WSs (cxD g st N k E) (defBody st) (startD N ds) M { nx := fun _ M' => Q (.d .none) M', rt := Q }) : DefOk g (k + 1) x qual st ps sp := ⟨f, fd, hm, def_at Fn S hb len body⟩

section
variable {C : Ct} {ρ : Rho} {M : MS}
/-- the callee runs; what it lets out reaches what is wanted here -/
theorem run_y {X : Cx} {F : Hp} {σ : L2.St} {H : Hp} {f : Addr} {fd : FuncData} {ps : List Str} {sp : SpD} {k : Nat} {pins : List (Addr × Obj)} {s : Shared} {us : List Value} {vs : List V} {kw : List (Str × Value)} {ws : List Value} {ds : List Y.D} {Q : Y.D → MS → Prop}
    (ok : FnOk C.g.P C.g.w C.g.K C.g.mg C.g.base (L2.CX C.g.P C.g.w) k f fd ps (toSp C.g sp)) (hk : k ≤ C.k) (hcalm : C.calm = true) (at0 : At C ρ M X F σ H) (I : Inv X pins σ H s) (r : Vals vs ws) (q : DVs X.K F vs ds) (h : sp ds M Q fun c fs m => C.E c fs ρ m)
    (hb : ws.length = ps.length → BindsTo s fd ⟨us, kw⟩ (ps.zip ws)) : wpAny (model X.prog X.w) X.A (call (.ref f) us kw) (EP X pins σ (Up X.K F Q)) X.xe s := by
  have o := at0.ok
  have ok' : FnOk X.prog X.w X.K X.mg X.base (L2.CX X.prog X.w) k f fd ps (toSp C.g sp) := by rw [o.P, o.w, o.K, o.mg, o.base]; exact ok
  have eK : X.K = C.g.K := o.K
  have hsp : toSp C.g sp vs H (Up X.K F Q) (LE X.K F fun c fs m => C.E c fs ρ m) := ⟨ds, M, F, Q, fun c fs m => C.E c fs ρ m, by rw [← eK]; exact at0.rel, by rw [← eK]; exact q, h, fun v H' z => by rw [← eK] at z; exact z, fun c d H' z => by rw [← eK] at z; exact z⟩
  have hl : ws.length = ps.length := (Paired.length r).symm.trans (ok'.len _ _ _ _ hsp)
  refine wpAny_call (codeAny_mono (ok'.run X.A X.stack s H ⟨us, kw⟩ ws vs _ _ ((o.room hcalm).mono hk) I.env0 (hb hl) r hsp) fun res s' hq => ?_)
  match res, hq with
  | .error e, hq =>
    refine o.takes e s' (XE.of_call I (fun c d H' z => ?_) hq)
    obtain ⟨M2, F2, fs2, z1, z2, z3, z4⟩ := z
    exact ⟨ρ, M2, F2, fs2, z1, at0.nm, at0.sg.mono z1, z2, z3, z4⟩
  | .ok (.ret u), hq => exact I.after hq
  | .ok .next, hq => exact False.elim hq
  | .ok .brk, hq => exact False.elim hq
  | .ok .cont, hq => exact False.elim hq
theorem we_call {x qual : Str} {st : Stmt} {ps : List Str} {sp : SpD} {k : Nat} {e : Expr} {es : List Expr} {p pos : Pos} {Q : D → MS → Prop} (D : DefOk C.g k x qual st ps sp) (hk : k ≤ C.k) (hcalm : C.calm = true) (hg : glB C.sc x = true)
    (he : ∀ env, starEach (e :: es) env = (false, eval e env) :: starEach es env) (hpl : ∀ env, (backTo pos (starEach es env)).any (·.1) = false) (h : WA C (e :: es) ρ M fun ds M1 => sp ds M1 Q fun c fs m => C.E c fs ρ m) : WE C (.Call (.Name x p) (e :: es) [] pos) ρ M Q := .mk fun X F σ H at0 pins s I => by
  obtain ⟨f, fd, hm, kp, _, bd, ok⟩ := D
  obtain ⟨hg, hd, hn⟩ := glB.ok hg
  have o := at0.ok
  refine wpAny_Call_Name_kw (ld_glob I (by show X.env.scope.names.lookup x = _; rw [o.sc]; exact hg) (by rw [o.mg]; exact hm) ?_ hd)
  refine PySem.W.callWith_K (h₀ := X.base) I.ok.mod.kin (by rw [o.K]; exact kp) ?_ (he X.env) (hpl X.env)
  refine thn (h X F σ H at0 pos pins s I) fun us s1 ⟨vs, H1, I1, r, ds, M1, F1, s2, R1, q, z⟩ => ⟨I1.kIn, ?_⟩
  have g := run_y (us := us) (kw := []) ok hk hcalm (at0.to s2 R1) I1 r q z (fun hl => by
    have b := bd s1 us (by rw [← o.K]; exact I1.kIn) (by rw [List.append_nil]; exact hl)
    rw [List.append_nil] at b
    exact b)
  exact thn g fun u s3 ⟨v, H3, I3, r3, z3⟩ => ⟨v, H3, I3, r3, z3.back s2⟩
theorem we_call0 {x qual : Str} {st : Stmt} {ps : List Str} {sp : SpD} {k : Nat} {p pos : Pos} {Q : D → MS → Prop} (D : DefOk C.g k x qual st ps sp) (hk : k ≤ C.k) (hcalm : C.calm = true) (hg : glB C.sc x = true) (h : sp [] M Q fun c fs m => C.E c fs ρ m) : WE C (.Call (.Name x p) [] [] pos) ρ M Q := .mk fun X F σ H at0 pins s I => by
  obtain ⟨f, fd, hm, kp, _, bd, ok⟩ := D
  obtain ⟨hg, hd, hn⟩ := glB.ok hg
  have o := at0.ok
  refine wpAny_Call_Name_kw (ld_glob I (by show X.env.scope.names.lookup x = _; rw [o.sc]; exact hg) (by rw [o.mg]; exact hm) ?_ hd)
  refine PySem.W.callWith_K0 I.kIn (by rw [o.K]; exact kp) ?_
  exact run_y (us := []) (kw := []) ok hk hcalm at0 I .nil .nil h (fun hl => bd s [] (by rw [← o.K]; exact I.kIn) hl)

/-! ### keywords -/
def tsk (X : Cx) (kws : List Keyword) : TA := fun σ H Q => ∀ pos pins s, Inv X pins σ H s → wpAny (model X.prog X.w) X.A (evalAll ((backToKw pos (keywordEach kws X.env)).map (·.2))) (AP X pins σ Q) X.xe s
theorem pk_s {X : Cx} {kws : List Keyword} : PK X kws (tsk X kws) := ⟨fun pos pins s _ _ _ I h => h pos pins s I⟩
structure WK (C : Ct) (kws : List Keyword) (ρ : Rho) (M : MS) (Q : List D → MS → Prop) : Prop where
  run : ∀ X F σ H, At C ρ M X F σ H → tsk X kws σ H (UpA X.K F Q)
instance {C : Ct} {kws : List Keyword} {ρ : Rho} {M : MS} {Q : List D → MS → Prop} : CoeFun (WK C kws ρ M Q) (fun _ => ∀ X F σ H, At C ρ M X F σ H → tsk X kws σ H (UpA X.K F Q)) := ⟨fun h => h.run⟩
theorem wk_nil {Q : List D → MS → Prop} (h : Q [] M) : WK C [] ρ M Q := .mk fun X F σ H at0 pos pins s I => pk_nil.run pos pins s σ H _ I ⟨[], M, F, Fs.refl F, at0.rel, .nil, h⟩
theorem wk_cons {nm : Option Str} {e : Expr} {kpos : Pos} {kws : List Keyword} {Q : List D → MS → Prop} (h : WE C e ρ M fun x M1 => WK C kws ρ M1 fun xs M2 => Q (x :: xs) M2) : WK C (⟨nm, e, kpos⟩ :: kws) ρ M Q := .mk fun X F σ H at0 pos pins s I => by
  refine (pk_cons pe_s (pk_s (X := X))).run pos pins s σ H _ I ?_
  refine h.go at0 fun v x M1 F1 H1 s1 a1 q1 h1 => fun pos pins s I => ?_
  exact thn (h1 X F1 σ H1 a1 pos pins s I) fun _ _ ⟨vs, H2, I2, r2, ds, M2, F2, s2, R2, q2, z⟩ => ⟨vs, H2, I2, r2, x :: ds, M2, F2, s1.trans s2, R2, .cons (q1.mono s2) q2, z⟩
/-- f(k = e, ..), keywords alone: g puts the values in the parameters' order -/
theorem we_callK {x qual : Str} {st : Stmt} {ps ks : List Str} {sp : SpD} {k : Nat} {kw : Keyword} {kws : List Keyword} {p pos : Pos} {Q : D → MS → Prop} {gl : List Value → List Value} {gV : List V → List V} {gD : List Y.D → List Y.D} (D : DefOk C.g k x qual st ps sp) (hk : k ≤ C.k) (hcalm : C.calm = true) (hg : glB C.sc x = true)
    (hb : ∀ (kV doc pm : Value) (an : Option Addr) (cdv ct : Value) (ws : List Value), (gl ws).length = ps.length → bindArgs (PySem.W.fnOf x qual (defArgs st) (defBody st) (defScope st) .none kV doc pm an cdv ct) ⟨[], ks.zip ws⟩ = pure (ps.zip (gl ws)))
    (hr : ∀ {vs : List V} {us : List Value}, Vals vs us → Vals (gV vs) (gl us)) (hd : ∀ {K : PySem.W.Frag} {F : Hp} {vs : List V} {ds : List Y.D}, DVs K F vs ds → DVs K F (gV vs) (gD ds))
    (hall : ∀ env, (backToKw pos (keywordEach (kw :: kws) env)).all (·.1.isSome) = true) (hks : ∀ env, (backToKw pos (keywordEach (kw :: kws) env)).filterMap (·.1) = ks)
    (hpl : ∀ env, ((backTo pos (starEach [] env)).any (·.1) || (backToKw pos (keywordEach (kw :: kws) env)).any (·.1.isNone)) = false)
    (h : WK C (kw :: kws) ρ M fun ds M1 => sp (gD ds) M1 Q fun c fs m => C.E c fs ρ m) : WE C (.Call (.Name x p) [] (kw :: kws) pos) ρ M Q := .mk fun X F σ H at0 => by
  obtain ⟨f, fd, hm, kp, ⟨kV, doc, pm, an, cdv, ct, hfd⟩, bd, ok⟩ := D
  obtain ⟨hg, hdb, hn⟩ := glB.ok hg
  have o := at0.ok
  intro pins s I
  refine wpAny_Call_Name_kw (ld_glob I (by show X.env.scope.names.lookup x = _; rw [o.sc]; exact hg) (by rw [o.mg]; exact hm) ?_ hdb)
  refine PySem.W.callWith_KW0 (h₀ := X.base) I.ok.mod.kin (by rw [o.K]; exact kp) (hall X.env) (thn (h X F σ H at0 pos pins s I) fun ws s2 ⟨zs, H2, I2, rz, ds, M2, F2, s2', R2, q2, hsp⟩ => ⟨I2.kIn, ?_⟩) (hpl X.env)
  rw [hks]
  have g := run_y (us := []) (kw := ks.zip ws) ok hk hcalm (at0.to s2' R2) I2 (hr rz) (hd q2) hsp (fun hl => by
    subst hfd
    exact .of_eq (hb _ _ _ _ _ _ ws hl))
  exact thn g fun u s3 ⟨v, H3, I3, r3, z3⟩ => ⟨v, H3, I3, r3, z3.back s2'⟩
end
end Y

/-! Layer Y, part F: operations on data. -/
namespace Y
open PySem PySem.Spec PyProof.Rows L2
section
variable {C : Ct} {ρ : Rho} {M : MS} {Q : D → MS → Prop}

/-! ### ints -/
section
variable {i j : Int}
theorem od_add (k : Q (.d (.int (i + j))) M) : OpD C (binaryOp .Add) (.d (.int i)) (.d (.int j)) M Q := .of (fun X F _ => op_add) fun X F H v w ok R q1 q2 => ⟨i, j, dv_int' q1, dv_int' q2, _, M, F, Fs.refl F, R, dv_int, k⟩
theorem od_sub (k : Q (.d (.int (i - j))) M) : OpD C (binaryOp .Sub) (.d (.int i)) (.d (.int j)) M Q := .of (fun X F _ => op_sub) fun X F H v w ok R q1 q2 => ⟨i, j, dv_int' q1, dv_int' q2, _, M, F, Fs.refl F, R, dv_int, k⟩
theorem od_mul (h : CMul i j) (k : Q (.d (.int (i * j))) M) : OpD C (binaryOp .Mult) (.d (.int i)) (.d (.int j)) M Q := .of (fun X F _ => op_mul) fun X F H v w ok R q1 q2 => ⟨i, j, dv_int' q1, dv_int' q2, h, _, M, F, Fs.refl F, R, dv_int, k⟩
theorem od_fdiv (h : CDiv i j) (k : Q (.d (.int (i / j))) M) : OpD C (binaryOp .FloorDiv) (.d (.int i)) (.d (.int j)) M Q := .of (fun X F _ => op_fdiv) fun X F H v w ok R q1 q2 => ⟨i, j, dv_int' q1, dv_int' q2, h, _, M, F, Fs.refl F, R, dv_int, k⟩
theorem od_mod (h : 0 < j) (k : Q (.d (.int (i % j))) M) : OpD C (binaryOp .Mod) (.d (.int i)) (.d (.int j)) M Q := .of (fun X F _ => op_mod) fun X F H v w ok R q1 q2 => ⟨i, j, dv_int' q1, dv_int' q2, h, _, M, F, Fs.refl F, R, dv_int, k⟩
theorem od_pow (h : CPow i j) (k : Q (.d (.int (i ^ j.toNat))) M) : OpD C (binaryOp .Pow) (.d (.int i)) (.d (.int j)) M Q := .of (fun X F _ => op_pow) fun X F H v w ok R q1 q2 => ⟨i, j, dv_int' q1, dv_int' q2, h, _, M, F, Fs.refl F, R, dv_int, k⟩
theorem od_shl (h : CPow i j) (k : Q (.d (.int (i * 2 ^ j.toNat))) M) : OpD C (binaryOp .LShift) (.d (.int i)) (.d (.int j)) M Q := .of (fun X F _ => op_shl) fun X F H v w ok R q1 q2 => ⟨i, j, dv_int' q1, dv_int' q2, h, _, M, F, Fs.refl F, R, dv_int, k⟩
theorem od_shr (h : 0 ≤ j) (k : Q (.d (.int (i / 2 ^ j.toNat))) M) : OpD C (binaryOp .RShift) (.d (.int i)) (.d (.int j)) M Q := .of (fun X F _ => op_shr) fun X F H v w ok R q1 q2 => ⟨i, j, dv_int' q1, dv_int' q2, h, _, M, F, Fs.refl F, R, dv_int, k⟩
theorem od_and (k : Q (.d (.int (Builtin.bitAnd i j))) M) : OpD C (binaryOp .BitAnd) (.d (.int i)) (.d (.int j)) M Q := .of (fun X F _ => op_and) fun X F H v w ok R q1 q2 => ⟨i, j, dv_int' q1, dv_int' q2, _, M, F, Fs.refl F, R, dv_int, k⟩
theorem od_or (k : Q (.d (.int (Builtin.bitOr i j))) M) : OpD C (binaryOp .BitOr) (.d (.int i)) (.d (.int j)) M Q := .of (fun X F _ => op_or) fun X F H v w ok R q1 q2 => ⟨i, j, dv_int' q1, dv_int' q2, _, M, F, Fs.refl F, R, dv_int, k⟩
theorem od_xor (k : Q (.d (.int (Builtin.bitXor i j))) M) : OpD C (binaryOp .BitXor) (.d (.int i)) (.d (.int j)) M Q := .of (fun X F _ => op_xor) fun X F H v w ok R q1 q2 => ⟨i, j, dv_int' q1, dv_int' q2, _, M, F, Fs.refl F, R, dv_int, k⟩
theorem oi_add (k : Q (.d (.int (i + j))) M) : OpD C (inplaceOp .Add) (.d (.int i)) (.d (.int j)) M Q := .of (fun X F _ => iop_add) fun X F H v w ok R q1 q2 => ⟨i, j, dv_int' q1, dv_int' q2, _, M, F, Fs.refl F, R, dv_int, k⟩
theorem oi_sub (k : Q (.d (.int (i - j))) M) : OpD C (inplaceOp .Sub) (.d (.int i)) (.d (.int j)) M Q := .of (fun X F _ => iop_sub) fun X F H v w ok R q1 q2 => ⟨i, j, dv_int' q1, dv_int' q2, _, M, F, Fs.refl F, R, dv_int, k⟩
theorem oi_or (k : Q (.d (.int (Builtin.bitOr i j))) M) : OpD C (inplaceOp .BitOr) (.d (.int i)) (.d (.int j)) M Q := .of (fun X F _ => iop_or) fun X F H v w ok R q1 q2 => ⟨i, j, dv_int' q1, dv_int' q2, _, M, F, Fs.refl F, R, dv_int, k⟩
theorem oc_lt (k : Q (.d (.bool (decide (i < j)))) M) : OpD C (compareOp .Lt) (.d (.int i)) (.d (.int j)) M Q := .of (fun X F _ => op_lt) fun X F H v w ok R q1 q2 => ⟨i, j, dv_int' q1, dv_int' q2, _, M, F, Fs.refl F, R, dv_bl, k⟩
theorem oc_le (k : Q (.d (.bool (decide (i ≤ j)))) M) : OpD C (compareOp .LtE) (.d (.int i)) (.d (.int j)) M Q := .of (fun X F _ => op_le) fun X F H v w ok R q1 q2 => ⟨i, j, dv_int' q1, dv_int' q2, _, M, F, Fs.refl F, R, dv_bl, k⟩
theorem oc_gt (k : Q (.d (.bool (decide (j < i)))) M) : OpD C (compareOp .Gt) (.d (.int i)) (.d (.int j)) M Q := .of (fun X F _ => op_gt) fun X F H v w ok R q1 q2 => ⟨i, j, dv_int' q1, dv_int' q2, _, M, F, Fs.refl F, R, dv_bl, k⟩
theorem oc_ge (k : Q (.d (.bool (decide (j ≤ i)))) M) : OpD C (compareOp .GtE) (.d (.int i)) (.d (.int j)) M Q := .of (fun X F _ => op_ge) fun X F H v w ok R q1 q2 => ⟨i, j, dv_int' q1, dv_int' q2, _, M, F, Fs.refl F, R, dv_bl, k⟩
end
theorem dv_scal {K : PySem.W.Frag} {F : Hp} {v : V} {x : PyData} (h : DV K F v (.d x)) : (∃ i, x = .int i ∧ v = .int i) ∨ (∃ i, x = .bool i ∧ v = .bl i) ∨ (∃ i, x = .str i ∧ v = .str i) ∨ (x = .none ∧ v = .non) ∨ ∃ a, v = .ref a := by
  cases (show Dp K F v x from h) with
  | non => exact .inr (.inr (.inr (.inl ⟨rfl, rfl⟩)))
  | bl b => exact .inr (.inl ⟨b, rfl, rfl⟩)
  | int i => exact .inl ⟨i, rfl, rfl⟩
  | str x => exact .inr (.inr (.inl ⟨x, rfl, rfl⟩))
  | lst h t => exact .inr (.inr (.inr (.inr ⟨_, rfl⟩)))
  | tup h t => exact .inr (.inr (.inr (.inr ⟨_, rfl⟩)))
/-- -i, not of an int -/
theorem we_neg {a : Expr} {pos : Pos} (h : WE C a ρ M fun x M1 => ∃ i, x = .d (.int i) ∧ Q (.d (.int (-i))) M1) : WE C (.UnaryOp .USub a pos) ρ M Q := .mk fun X F σ H at0 =>
  PE.se (pe_un un_neg pe_s) (h.go at0 fun v x M1 F1 H1 s1 a1 q1 ⟨i, e, q⟩ => by subst e; exact ⟨i, dv_int' q1, _, M1, F1, s1, a1.rel, dv_int, q⟩)
theorem we_inv {a : Expr} {pos : Pos} (h : WE C a ρ M fun x M1 => ∃ i, x = .d (.int i) ∧ Q (.d (.int (Builtin.bitNot i))) M1) : WE C (.UnaryOp .Invert a pos) ρ M Q := .mk fun X F σ H at0 =>
  PE.se (pe_un un_inv pe_s) (h.go at0 fun v x M1 F1 H1 s1 a1 q1 ⟨i, e, q⟩ => by subst e; exact ⟨i, dv_int' q1, _, M1, F1, s1, a1.rel, dv_int, q⟩)

/-! ### == and != of data -/
theorem hu64 {X : Cx} {F : Hp} (ok : CtOk C X F) (hc : C.calm = true) : X.A.units + 65 < cLine := by
  have := (ok.room hc).un
  omega
theorem oc_eq {x y : PyData} (hc : C.calm = true) (h1 : SeqAt.shaped x = true) (h2 : SeqAt.shaped y = true) (k : Q (.d (.bool (PyData.eqv x y))) M) : OpD C (compareOp .Eq) (.d x) (.d y) M Q := .mk fun X F H v w ok R q1 q2 =>
  OpR.se (op_eqD (by have := hu64 ok hc; omega)) ⟨x, y, Dp.mono R.sub q1, Dp.mono R.sub q2, h1, h2, _, M, F, Fs.refl F, R, dv_bl, k⟩
theorem oc_ne {x y : PyData} (hc : C.calm = true) (h1 : SeqAt.shaped x = true) (h2 : SeqAt.shaped y = true) (k : Q (.d (.bool (!PyData.eqv x y))) M) : OpD C (compareOp .NotEq) (.d x) (.d y) M Q := .mk fun X F H v w ok R q1 q2 =>
  OpR.se (op_neD (by have := hu64 ok hc; omega)) ⟨x, y, Dp.mono R.sub q1, Dp.mono R.sub q2, h1, h2, _, M, F, Fs.refl F, R, dv_bl, k⟩
/-- of ints, bools, texts: no more is asked -/
def scD : PyData → PyData → Bool
  | .int _, .int _ => true
  | .int _, .bool _ => false
  | .bool _, .bool _ => true
  | .str _, .str _ => true
  | _, _ => false
theorem oc_eqI {i j : Int} (k : Q (.d (.bool (decide (i = j)))) M) : OpD C (compareOp .Eq) (.d (.int i)) (.d (.int j)) M Q := .of (fun X F _ => op_eq) fun X F H v w ok R q1 q2 => by
  cases dv_int' q1; cases dv_int' q2
  have e : decide (V.int i = V.int j) = decide (i = j) := by rw [dec_int]; exact Bool.beq_eq_decide_eq i j
  exact ⟨rfl, .d (.bool (decide (i = j))), M, F, Fs.refl F, R, by rw [e]; exact dv_bl, k⟩
theorem oc_neI {i j : Int} (k : Q (.d (.bool (!decide (i = j)))) M) : OpD C (compareOp .NotEq) (.d (.int i)) (.d (.int j)) M Q := .of (fun X F _ => op_ne) fun X F H v w ok R q1 q2 => by
  cases dv_int' q1; cases dv_int' q2
  have e : decide (V.int i = V.int j) = decide (i = j) := by rw [dec_int]; exact Bool.beq_eq_decide_eq i j
  exact ⟨rfl, .d (.bool (!decide (i = j))), M, F, Fs.refl F, R, by rw [e]; exact dv_bl, k⟩
theorem oc_eqB {i j : Bool} (k : Q (.d (.bool (i == j))) M) : OpD C (compareOp .Eq) (.d (.bool i)) (.d (.bool j)) M Q := .of (fun X F _ => op_eq) fun X F H v w ok R q1 q2 => by
  cases dv_bool q1; cases dv_bool q2
  exact ⟨rfl, .d (.bool (i == j)), M, F, Fs.refl F, R, by rw [dec_bl]; exact dv_bl, k⟩
theorem oc_neB {i j : Bool} (k : Q (.d (.bool (!(i == j)))) M) : OpD C (compareOp .NotEq) (.d (.bool i)) (.d (.bool j)) M Q := .of (fun X F _ => op_ne) fun X F H v w ok R q1 q2 => by
  cases dv_bool q1; cases dv_bool q2
  exact ⟨rfl, .d (.bool (!(i == j))), M, F, Fs.refl F, R, by rw [dec_bl]; exact dv_bl, k⟩
theorem oc_eqS {i j : Str} (k : Q (.d (.bool (decide (i = j)))) M) : OpD C (compareOp .Eq) (.d (.str i)) (.d (.str j)) M Q := .of (fun X F _ => op_eq) fun X F H v w ok R q1 q2 => by
  cases dv_str' q1; cases dv_str' q2
  have e : decide (V.str i = V.str j) = decide (i = j) := by rw [dec_str]; exact Bool.beq_eq_decide_eq i j
  exact ⟨rfl, .d (.bool (decide (i = j))), M, F, Fs.refl F, R, by rw [e]; exact dv_bl, k⟩
theorem oc_neS {i j : Str} (k : Q (.d (.bool (!decide (i = j)))) M) : OpD C (compareOp .NotEq) (.d (.str i)) (.d (.str j)) M Q := .of (fun X F _ => op_ne) fun X F H v w ok R q1 q2 => by
  cases dv_str' q1; cases dv_str' q2
  have e : decide (V.str i = V.str j) = decide (i = j) := by rw [dec_str]; exact Bool.beq_eq_decide_eq i j
  exact ⟨rfl, .d (.bool (!decide (i = j))), M, F, Fs.refl F, R, by rw [e]; exact dv_bl, k⟩

/-! ### is None, is True -/
def isNoneD : D → Bool
  | .d .none => true
  | _ => false
theorem dv_isNone {K : PySem.W.Frag} {F : Hp} {v : V} {d : D} (h : DV K F v d) : decide (v = .non) = isNoneD d := by
  cases d with
  | d x =>
    rcases dv_scal h with ⟨i, rfl, rfl⟩ | ⟨i, rfl, rfl⟩ | ⟨i, rfl, rfl⟩ | ⟨rfl, rfl⟩ | ⟨a, rfl⟩
    · rfl
    · rfl
    · rfl
    · rfl
    · cases x with
      | none => cases (show Dp K F _ PyData.none from h)
      | _ => rfl
  | r a => cases (show v = .ref a from h); rfl
theorem oc_isN {x : D} (k : Q (.d (.bool (isNoneD x))) M) : OpD C (compareOp .Is) x (.d .none) M Q := .of (fun X F _ => op_isN) fun X F H v w ok R q1 q2 => ⟨dv_non' q2, .d (.bool (isNoneD x)), M, F, Fs.refl F, R, by rw [dv_isNone q1]; exact dv_bl, k⟩
theorem oc_notN {x : D} (k : Q (.d (.bool (!isNoneD x))) M) : OpD C (compareOp .IsNot) x (.d .none) M Q := .of (fun X F _ => op_notN) fun X F H v w ok R q1 q2 => ⟨dv_non' q2, .d (.bool (!isNoneD x)), M, F, Fs.refl F, R, by rw [dv_isNone q1]; exact dv_bl, k⟩
theorem oc_isB {a b : Bool} (k : Q (.d (.bool (decide (a = b)))) M) : OpD C (compareOp .Is) (.d (.bool a)) (.d (.bool b)) M Q := .of (fun X F _ => op_is_bl) fun X F H v w ok R q1 q2 => ⟨a, b, dv_bool q1, dv_bool q2, _, M, F, Fs.refl F, R, dv_bl, k⟩
theorem oc_notB {a b : Bool} (k : Q (.d (.bool (!decide (a = b)))) M) : OpD C (compareOp .IsNot) (.d (.bool a)) (.d (.bool b)) M Q := .of (fun X F _ => op_isnot_bl) fun X F H v w ok R q1 q2 => ⟨a, b, dv_bool q1, dv_bool q2, _, M, F, Fs.refl F, R, dv_bl, k⟩

/-! ### texts -/
theorem od_addS {i j : Str} (h : i.length + j.length ≤ sizeLine) (k : Q (.d (.str (i ++ j))) M) : OpD C (binaryOp .Add) (.d (.str i)) (.d (.str j)) M Q := .of (fun X F _ => op_add_str) fun X F H v w ok R q1 q2 => ⟨i, j, dv_str' q1, dv_str' q2, h, _, M, F, Fs.refl F, R, dv_str, k⟩
theorem oc_ltS {i j : Str} (k : Q (.d (.bool (decide (i.cps.toList < j.cps.toList)))) M) : OpD C (compareOp .Lt) (.d (.str i)) (.d (.str j)) M Q := .of (fun X F _ => op_lt_str) fun X F H v w ok R q1 q2 => ⟨i, j, dv_str' q1, dv_str' q2, _, M, F, Fs.refl F, R, dv_bl, k⟩
theorem oc_leS {i j : Str} (k : Q (.d (.bool (!decide (j.cps.toList < i.cps.toList)))) M) : OpD C (compareOp .LtE) (.d (.str i)) (.d (.str j)) M Q := .of (fun X F _ => op_le_str) fun X F H v w ok R q1 q2 => ⟨i, j, dv_str' q1, dv_str' q2, _, M, F, Fs.refl F, R, dv_bl, k⟩
theorem oc_inC {c : Nat} {z : Str} (k : Q (.d (.bool (decide (c ∈ z.cps.toList)))) M) : OpD C (compareOp .In) (.d (.str ⟨#[c]⟩)) (.d (.str z)) M Q := .of (fun X F _ => op_in_sign) fun X F H v w ok R q1 q2 => ⟨c, z, dv_str' q1, dv_str' q2, _, M, F, Fs.refl F, R, dv_bl, k⟩
theorem oc_niC {c : Nat} {z : Str} (k : Q (.d (.bool (!decide (c ∈ z.cps.toList)))) M) : OpD C (compareOp .NotIn) (.d (.str ⟨#[c]⟩)) (.d (.str z)) M Q := .of (fun X F _ => op_notIn_sign) fun X F H v w ok R q1 q2 => ⟨c, z, dv_str' q1, dv_str' q2, _, M, F, Fs.refl F, R, dv_bl, k⟩

/-! ### in, not in -/
def inD (x : PyData) (ds : List PyData) : Bool := ds.any fun y => PyData.eqv y x
/-- a list or a tuple of data -/
def SeqD (M : MS) (y : D) (ds : List PyData) : Prop := y = .d (.tuple ds) ∨ y = .d (.list ds) ∨ ∃ a, y = .r a ∧ M.m a = some (.lst (ds.map D.d))
theorem room_in {x : PyData} {n u : Nat} (sd : SeqAt.shaped x = true) (hu : u + 65 < cLine) : u + 1 + min n x.depth < cLine := by
  have h1 := SeqAt.depth_of_shaped sd
  have h2 : min n x.depth ≤ x.depth := Nat.min_le_right _ _
  omega
theorem SeqD.reads {X : Cx} {pins : List (Addr × Obj)} {σ : L2.St} {F H : Hp} {s : Shared} {w : V} {u : Value} {y : D} {ds : List PyData} (I : Inv X pins σ H s) (R : Rel X.K M F H) (q : DV X.K F w y) (r : RelV w u) (h : SeqD M y ds) : (∃ as, Reads s.heap u (.tuple ds) as) ∨ ∃ as, Reads s.heap u (.list ds) as := by
  rcases h with rfl | rfl | ⟨a, rfl, h⟩
  · exact .inl (Dp.reads I _ _ _ (Dp.mono R.sub q) r)
  · exact .inr (Dp.reads I _ _ _ (Dp.mono R.sub q) r)
  · cases (show w = .ref a from q)
    obtain ⟨o, h1, h2⟩ := R.read h
    cases o with
    | lst vs => exact .inr (Dp.reads I _ _ _ (Dp.lst (SqL.of h1) (DpAll.mono R.sub (DVs.all (show DVs X.K F vs (ds.map D.d) from h2)))) r)
    | _ => exact h2.elim
theorem oc_in {x : PyData} {y : D} {ds : List PyData} (hc : C.calm = true) (hy : SeqD M y ds) (h1 : SeqAt.shaped x = true) (h2 : PyData.canLayAll0 ds = true) (k : Q (.d (.bool (inD x ds))) M) : OpD C (compareOp .In) (.d x) y M Q := .mk fun X F H v w ok R q1 q2 pins s σ u1 u2 I r1 r2 => by
  obtain ⟨as, rx⟩ := Dp.reads I _ _ _ (Dp.mono R.sub q1) r1
  have hu := hu64 ok hc
  rcases hy.reads I R q2 r2 with ⟨bs, rc⟩ | ⟨bs, rc⟩
  · exact SeqAt.in_tuple_reads rc rx h2 (SeqAt.canLay_of_shaped h1) (room_in h1 hu) ⟨.bl _, H, I, rfl, _, M, F, Fs.refl F, R, dv_bl, k⟩
  · exact SeqAt.in_list_reads rc rx h2 (SeqAt.canLay_of_shaped h1) (room_in h1 hu) ⟨.bl _, H, I, rfl, _, M, F, Fs.refl F, R, dv_bl, k⟩
theorem oc_ni {x : PyData} {y : D} {ds : List PyData} (hc : C.calm = true) (hy : SeqD M y ds) (h1 : SeqAt.shaped x = true) (h2 : PyData.canLayAll0 ds = true) (k : Q (.d (.bool (!inD x ds))) M) : OpD C (compareOp .NotIn) (.d x) y M Q := .mk fun X F H v w ok R q1 q2 pins s σ u1 u2 I r1 r2 => by
  obtain ⟨as, rx⟩ := Dp.reads I _ _ _ (Dp.mono R.sub q1) r1
  have hu := hu64 ok hc
  rcases hy.reads I R q2 r2 with ⟨bs, rc⟩ | ⟨bs, rc⟩
  · exact SeqAt.notIn_tuple_reads rc rx h2 (SeqAt.canLay_of_shaped h1) (room_in h1 hu) ⟨.bl _, H, I, rfl, _, M, F, Fs.refl F, R, dv_bl, k⟩
  · exact SeqAt.notIn_list_reads rc rx h2 (SeqAt.canLay_of_shaped h1) (room_in h1 hu) ⟨.bl _, H, I, rfl, _, M, F, Fs.refl F, R, dv_bl, k⟩

/-! ### lists and tuples: +, slices, len -/
def LView (M : MS) (y : D) (xs : List D) : Prop := (∃ ds, y = .d (.list ds) ∧ xs = ds.map D.d) ∨ ∃ a, y = .r a ∧ M.m a = some (.lst xs)
theorem LView.ok {K : PySem.W.Frag} {F H : Hp} {v : V} {y : D} {xs : List D} (R : Rel K M F H) (q : DV K F v y) (h : LView M y xs) : ∃ a vs, v = .ref a ∧ SqL K H a vs ∧ DVs K F vs xs := by
  rcases h with ⟨ds, rfl, rfl⟩ | ⟨a, rfl, h⟩
  · obtain ⟨a, vs, rfl, h1, h2⟩ := dv_lst q
    exact ⟨a, vs, rfl, SqL.mono R.sub h1, DVs.of_all h2⟩
  · cases (show v = .ref a from q)
    obtain ⟨o, h1, h2⟩ := R.read h
    cases o with
    | lst vs => exact ⟨a, vs, rfl, SqL.of h1, h2⟩
    | _ => exact h2.elim
theorem LView.d {ds : List PyData} : LView M (.d (.list ds)) (ds.map D.d) := .inl ⟨ds, rfl, rfl⟩
theorem LView.r {a : Addr} {xs : List D} (h : M.m a = some (.lst xs)) : LView M (.r a) xs := .inr ⟨a, rfl, h⟩
theorem od_catT {xs ys : List PyData} (hl : xs.length + ys.length ≤ sizeLine) (k : Q (.d (.tuple (xs ++ ys))) M) : OpD C (binaryOp .Add) (.d (.tuple xs)) (.d (.tuple ys)) M Q := .of (fun X F _ => op_catA) fun X F H v w ok R q1 q2 => by
  obtain ⟨a, vs, rfl, h1, h2⟩ := dv_tup q1
  obtain ⟨b, ws, rfl, h3, h4⟩ := dv_tup q2
  have e1 := (DVs.of_all h2).length
  have e2 := (DVs.of_all h4).length
  rw [List.length_map] at e1 e2
  refine ⟨a, b, vs, ws, rfl, rfl, SqT.mono R.sub h1, SqT.mono R.sub h3, by omega, fun e => ?_, fun _ e => ?_, fun _ _ p hp => ?_⟩
  · subst e
    cases h2
    exact ⟨_, M, F, Fs.refl F, R, q2, k⟩
  · subst e
    cases h4
    rw [List.append_nil] at k
    exact ⟨_, M, F, Fs.refl F, R, q1, k⟩
  · obtain ⟨s2, R2⟩ := R.grow (u := .tup (vs ++ ws)) hp
    refine ⟨.d (.tuple (xs ++ ys)), M, _, s2, R2, Dp.tup (SqT.of upd_same) ?_, k⟩
    have := (DVs.of_all h2).append (DVs.of_all h4)
    rw [← List.map_append] at this
    exact DpAll.mono s2 (DVs.all this)
theorem cutV_fa2 {α β : Type} {R : α → β → Prop} {xs : List α} {ys : List β} (h : Fa2 R xs ys) (lo hi : Option Int) : Fa2 R ((xs.drop (HT.sIx xs.length 0 lo)).take (HT.sIx xs.length xs.length hi - HT.sIx xs.length 0 lo)) ((ys.drop (HT.sIx ys.length 0 lo)).take (HT.sIx ys.length ys.length hi - HT.sIx ys.length 0 lo)) := by
  rw [h.length]; exact (h.drop _).take _
def cutL {α : Type} (xs : List α) (lo hi : Option Int) : List α := (xs.drop (HT.sIx xs.length 0 lo)).take (HT.sIx xs.length xs.length hi - HT.sIx xs.length 0 lo)
theorem cutL_map {α β : Type} (f : α → β) (xs : List α) (lo hi : Option Int) : cutL (xs.map f) lo hi = (cutL xs lo hi).map f := by
  unfold cutL; rw [List.length_map, List.map_take, List.map_drop]
theorem od_catL {x y : D} {xs ys : List D} (hx : LView M x xs) (hy : LView M y ys) (hl : xs.length + ys.length ≤ sizeLine) (k : NewL Q M (xs ++ ys)) : OpD C (binaryOp .Add) x y M Q := .mk fun X F H v w ok R q1 q2 pins s σ u1 u2 I r1 r2 => by
  obtain ⟨a, vs, rfl, h1, h2⟩ := hx.ok R q1
  obtain ⟨b, ws, rfl, h3, h4⟩ := hy.ok R q2
  cases r1
  cases r2
  obtain ⟨its, rv, ⟨⟨cls, dd, data, sl⟩, n, ho, hc, hdd, hd⟩, hz⟩ := I.list h1
  obtain ⟨its2, rv2, ⟨⟨cls2, dd2, data2, sl2⟩, n2, ho2, hc2, hdd2, hd2⟩, hz2⟩ := I.list h3
  simp only at hc hd hc2 hd2
  subst hc hd hc2 hd2
  have e1 := rv.length
  have e2 := rv2.length
  have e3 := h2.length
  have e4 := h4.length
  have hsz : its.toArray.size + its2.toArray.size ≤ sizeLine := by rw [List.size_toArray, List.size_toArray]; omega
  have e : its.toArray ++ its2.toArray = (its ++ its2).toArray := by simp
  refine concat_meets ⟨_, ho, rfl⟩ ⟨_, ho2, rfl⟩ noFill_list_add seq_list_add PySem.F.slot_list_add PySem.F.entry_list_add (PySem.F.args_list_add_2 _ _) (list_addW a b its.toArray its2.toArray n n2 dd dd2 sl sl2 hsz) ⟨ho, ho2, ?_⟩
  rw [e]
  exact ⟨.ref _, _, I.lnew (t' := s.toks) (rv.append rv2) (by rw [List.length_append]; omega), rfl, k.up (Fs.refl F) R (h2.append h4) _ I.fresh⟩

/-! ### slices -/
theorem wo_none {R : Option Int → MS → Prop} (h : R none M) : WO C none ρ M R := .mk fun X F σ H a => PO.se po_none ⟨M, F, Fs.refl F, a.rel, h⟩
theorem wo_some {e : Expr} {R : Option Int → MS → Prop} (h : WE C e ρ M fun x M1 => ∃ i, x = .d (.int i) ∧ R (some i) M1) : WO C (some e) ρ M R := .mk fun X F σ H a =>
  PO.se (po_some pe_s) (h.go a fun v x M1 F1 H1 s1 a1 q1 ⟨i, e, q⟩ => by subst e; exact ⟨i, dv_int' q1, M1, F1, s1, a1.rel, q⟩)
/-- e[lo:hi] by values -/
def SlD (C : Ct) (x : D) (lo hi : Option Int) (M : MS) (Q : D → MS → Prop) : Prop := match x with
  | .d (.str s) => s.length ≤ sizeLine ∧ Q (.d (.str (cutS s lo hi))) M
  | .d (.tuple xs) => Q (.d (.tuple (cutL xs lo hi))) M
  | .d (.list xs) => NewL Q M ((cutL xs lo hi).map D.d)
  | .r a => ∃ xs, M.m a = some (.lst xs) ∧ NewL Q M (cutL xs lo hi)
  | _ => False
theorem sIx_same (n : Nat) : HT.sIx n n none = n := rfl
theorem we_slice {e : Expr} {lo hi : Option Expr} {p2 pos : Pos} (h : WE C e ρ M fun x M1 => WO C lo ρ M1 fun l M2 => WO C hi ρ M2 fun u M3 => SlD C x l u M3 Q) : WE C (.Subscript e (.Slice lo hi none p2) pos) ρ M Q := .mk fun X F σ H at0 => by
  refine PE.se (pe_slice ((sl_str.or sl_tupA).or sl_list) pe_s po_s po_s) ?_
  refine h.go at0 fun v x M1 F1 H1 s1 a1 q1 h1 => h1.go a1 fun l M2 F2 H2 s2 a2 h2 => h2.go a2 fun u M3 F3 H3 s3 a3 h3 => ?_
  have q3 := (q1.mono s2).mono s3
  have st := (s1.trans s2).trans s3
  have R := a3.rel
  cases x with
  | d x =>
    cases x with
    | str z =>
      cases dv_str' q3
      exact .inl (.inl ⟨z, rfl, h3.1, _, M3, F3, st, R, dv_str, h3.2⟩)
    | tuple xs =>
      obtain ⟨a, vs, rfl, g1, g2⟩ := dv_tup q3
      have g3 := DVs.of_all g2
      have el : vs.length = xs.length := by have := g3.length; rw [List.length_map] at this; exact this
      refine .inl (.inr ⟨a, vs, rfl, SqT.mono R.sub g1, fun hw => ⟨.d (.tuple xs), M3, F3, st, R, q3, ?_⟩, fun _ p hp => ?_⟩)
      · have e : cutL xs l u = xs := by
          unfold cutL
          rw [← el, hw.1, hw.2, el]
          simp
        have h3' : Q (.d (.tuple (cutL xs l u))) M3 := h3
        rw [e] at h3'
        exact h3'
      · obtain ⟨s4, R4⟩ := R.grow (u := .tup (cutV vs l u)) hp
        refine ⟨.d (.tuple (cutL xs l u)), M3, _, st.trans s4, R4, Dp.tup (SqT.of upd_same) (DpAll.mono s4 (DVs.all ?_)), h3⟩
        rw [← cutL_map]
        exact cutV_fa2 g3 l u
    | list xs =>
      obtain ⟨a, vs, rfl, g1, g2⟩ := dv_lst q3
      refine .inr ⟨a, vs, rfl, SqL.mono R.sub g1, (show NewL Q M3 _ from h3).up st R ?_⟩
      rw [← cutL_map]
      exact cutV_fa2 (DVs.of_all g2) l u
    | _ => exact h3.elim
  | r a =>
    obtain ⟨xs, g1, g2⟩ := h3
    cases (show v = .ref a from q3)
    obtain ⟨o, g3, g4⟩ := R.read g1
    cases o with
    | lst vs => exact .inr ⟨a, vs, rfl, SqL.of g3, g2.up st R (cutV_fa2 (show DVs X.K F3 vs xs from g4) l u)⟩
    | _ => exact g4.elim

/-! ### len, abs, min, max, int, str, tuple, list -/
def LenD (M : MS) (x : D) (n : Nat) : Prop := match x with
  | .d (.str s) => s.length ≤ sizeLine ∧ n = s.length
  | .d (.tuple xs) => n = xs.length
  | .d (.list xs) => n = xs.length
  | .r a => (∃ xs, M.m a = some (.lst xs) ∧ n = xs.length)
  | _ => False
theorem ca_len {x : D} {n : Nat} (h : LenD M x n) (k : Q (.d (.int n)) M) : CaD C (.builtin "len") [x] M Q := .of (fun X F _ => call_len) fun X F H vs ok R q => by
  cases q with
  | cons q qn =>
  cases qn
  refine ⟨_, n, rfl, ?_, _, M, F, Fs.refl F, R, dv_int, k⟩
  cases x with
  | d x =>
    cases x with
    | str z => cases dv_str' q; exact h
    | tuple xs => obtain ⟨a, vs, rfl, g1, g2⟩ := dv_tup q; have := (DVs.of_all g2).length; rw [List.length_map] at this; exact .inr ⟨vs, SqT.mono R.sub g1, h.trans this.symm⟩
    | list xs => obtain ⟨a, vs, rfl, g1, g2⟩ := dv_lst q; have := (DVs.of_all g2).length; rw [List.length_map] at this; exact .inl ⟨vs, SqL.mono R.sub g1, h.trans this.symm⟩
    | _ => exact h.elim
  | r a =>
    obtain ⟨xs, g1, g2⟩ := h
    cases (show _ = V.ref a from q)
    obtain ⟨o, g3, g4⟩ := R.read g1
    cases o with
    | lst vs => exact .inl ⟨vs, SqL.of g3, g2.trans (show DVs X.K F vs xs from g4).length.symm⟩
    | _ => exact g4.elim
theorem ca_abs {i : Int} (k : Q (.d (.int (if i < 0 then -i else i))) M) : CaD C (.builtin "abs") [.d (.int i)] M Q := .of (fun X F _ => call_abs) fun X F H vs ok R q => by
  cases q with | cons q qn => cases qn; exact ⟨i, by rw [dv_int' q], _, M, F, Fs.refl F, R, dv_int, k⟩
theorem ca_max2 {i j : Int} (hc : C.calm = true) (k : Q (.d (.int (if j > i then j else i))) M) : CaD C (.builtin "max") [.d (.int i), .d (.int j)] M Q := .mk fun X F H vs ok R q => CallR.se (call_max2 (ok.calm.trans hc)) (by
  cases q with | cons q qn => cases qn with | cons q2 qn => cases qn; exact ⟨i, j, by rw [dv_int' q, dv_int' q2], _, M, F, Fs.refl F, R, dv_int, k⟩)
theorem ca_min2 {i j : Int} (hc : C.calm = true) (k : Q (.d (.int (if j < i then j else i))) M) : CaD C (.builtin "min") [.d (.int i), .d (.int j)] M Q := .mk fun X F H vs ok R q => CallR.se (call_min2 (ok.calm.trans hc)) (by
  cases q with | cons q qn => cases qn with | cons q2 qn => cases qn; exact ⟨i, j, by rw [dv_int' q, dv_int' q2], _, M, F, Fs.refl F, R, dv_int, k⟩)
theorem ca_int {i : Int} (k : Q (.d (.int i)) M) : CaD C (.type "int") [.d (.int i)] M Q := .of (fun X F _ => call_int1) fun X F H vs ok R q => by
  cases q with | cons q qn => cases qn; exact .inl ⟨i, by rw [dv_int' q], _, M, F, Fs.refl F, R, dv_int, k⟩
theorem ca_intB {b : Bool} (k : Q (.d (.int (if b then 1 else 0))) M) : CaD C (.type "int") [.d (.bool b)] M Q := .of (fun X F _ => call_int1) fun X F H vs ok R q => by
  cases q with | cons q qn => cases qn; exact .inr ⟨b, by rw [dv_bool q], _, M, F, Fs.refl F, R, dv_int, k⟩
theorem ca_str {i : Int} (h : i.natAbs.log2 < 1920) (k : Q (.d (.str (toString i))) M) : CaD C (.type "str") [.d (.int i)] M Q := .of (fun X F _ => call_str_int) fun X F H vs ok R q => by
  cases q with | cons q qn => cases qn; exact ⟨i, by rw [dv_int' q], h, _, M, F, Fs.refl F, R, dv_str, k⟩
theorem ca_tupL {x : D} {xs : List D} {ds : List PyData} (hx : LView M x xs) (e : xs = ds.map D.d) (k : Q (.d (.tuple ds)) M) : CaD C (.type "tuple") [x] M Q := .of (fun X F _ => call_tuple_of) fun X F H vs ok R q => by
  cases q with | cons q qn =>
  cases qn
  obtain ⟨a, ws, rfl, h1, h2⟩ := hx.ok R q
  subst e
  refine ⟨a, ws, rfl, .inl ⟨h1, fun l hl => ?_⟩⟩
  obtain ⟨s2, R2⟩ := R.grow (u := .tup ws) hl
  exact ⟨.d (.tuple ds), M, _, s2, R2, Dp.tup (SqT.of upd_same) (DpAll.mono s2 (DVs.all h2)), k⟩
theorem ca_tupT {ds : List PyData} (k : Q (.d (.tuple ds)) M) : CaD C (.type "tuple") [.d (.tuple ds)] M Q := .of (fun X F _ => call_tuple_of) fun X F H vs ok R q => by
  cases q with | cons q qn =>
  cases qn
  obtain ⟨a, ws, rfl, h1, h2⟩ := dv_tup q
  exact ⟨a, ws, rfl, .inr ⟨SqT.mono R.sub h1, .d (.tuple ds), M, F, Fs.refl F, R, q, k⟩⟩
theorem ca_listL {x : D} {xs : List D} (hx : LView M x xs) (k : NewL Q M xs) : CaD C (.type "list") [x] M Q := .of (fun X F _ => call_list_of) fun X F H vs ok R q => by
  cases q with | cons q qn =>
  cases qn
  obtain ⟨a, ws, rfl, h1, h2⟩ := hx.ok R q
  exact ⟨a, ws, rfl, .inl h1, k.up (Fs.refl F) R h2⟩
theorem ca_listT {ds : List PyData} (k : NewL Q M (ds.map D.d)) : CaD C (.type "list") [.d (.tuple ds)] M Q := .of (fun X F _ => call_list_of) fun X F H vs ok R q => by
  cases q with | cons q qn =>
  cases qn
  obtain ⟨a, ws, rfl, h1, h2⟩ := dv_tup q
  exact ⟨a, ws, rfl, .inr (SqT.mono R.sub h1), k.up (Fs.refl F) R (DVs.of_all h2)⟩

/-! ### methods of lists that may change -/
theorem dvs_one {K : PySem.W.Frag} {F : Hp} {vs : List V} {d : D} (h : DVs K F vs [d]) : ∃ v, vs = [v] ∧ DV K F v d := by
  cases h with | cons q qn => cases qn; exact ⟨_, rfl, q⟩
theorem mt_app {a : Addr} {xs : List D} {y : D} (hx : M.m a = some (.lst xs)) (hl : xs.length < sizeLine) (k : Q (.d .none) (M.put a (.lst (xs ++ [y])))) : MtD C "list.append" (.r a) [y] M Q := .of (fun X F _ => mt_append) fun X F H v vs ok R q1 q2 => by
  obtain ⟨w, rfl, q⟩ := dvs_one q2
  obtain ⟨o, h1, h2⟩ := R.read hx
  cases o with
  | lst ws =>
    have h2' : DVs X.K F ws xs := h2
    exact ⟨a, ws, w, q1, rfl, h1, by rw [h2'.length]; exact hl, _, _, F, Fs.refl F, R.write (o' := .lst (xs ++ [y])) hx (h2'.append (.cons q .nil)), dv_non, k⟩
  | _ => exact h2.elim
theorem mt_pop0 {a : Addr} {xs : List D} {y : D} (hx : M.m a = some (.lst xs)) (hy : xs[xs.length - 1]? = some y) (k : Q y (M.put a (.lst xs.dropLast))) : MtD C "list.pop" (.r a) [] M Q := .of (fun X F _ => mt_pop) fun X F H v vs ok R q1 q2 => by
  cases q2
  obtain ⟨o, h1, h2⟩ := R.read hx
  cases o with
  | lst ws =>
    have h2' : DVs X.K F ws xs := h2
    obtain ⟨w, h3, h4⟩ := h2'.get hy
    exact ⟨a, ws, w, q1, rfl, h1, by rw [h2'.length]; exact h3, _, _, F, Fs.refl F, R.write (o' := .lst xs.dropLast) hx h2'.dropLast, h4, k⟩
  | _ => exact h2.elim
theorem mt_pop1 {a : Addr} {xs : List D} {y : D} {i : Int} {n : Nat} (hx : M.m a = some (.lst xs)) (hi : -(2 ^ 63) ≤ i ∧ i < 2 ^ 63) (hn : seqIndex? i xs.length = some n) (hy : xs[n]? = some y) (k : Q y (M.put a (.lst (xs.eraseIdx n)))) : MtD C "list.pop" (.r a) [.d (.int i)] M Q := .of (fun X F _ => mt_popAt) fun X F H v vs ok R q1 q2 => by
  obtain ⟨w, rfl, q⟩ := dvs_one q2
  cases dv_int' q
  obtain ⟨o, h1, h2⟩ := R.read hx
  cases o with
  | lst ws =>
    have h2' : DVs X.K F ws xs := h2
    obtain ⟨w, h3, h4⟩ := h2'.get hy
    exact ⟨a, ws, i, n, w, q1, rfl, h1, hi.1, hi.2, by rw [h2'.length]; exact hn, h3, _, _, F, Fs.refl F, R.write (o' := .lst (xs.eraseIdx n)) hx (h2'.eraseIdx n), h4, k⟩
  | _ => exact h2.elim
/-- xs[i] = v -/
theorem sd_lst {a : Addr} {xs : List D} {i : Int} {n : Nat} {v : D} {R : MS → Prop} (hx : M.m a = some (.lst xs)) (hn : ixN xs.length i = some n) (k : R (M.put a (.lst (xs.set n v)))) : StD C (.r a) (.d (.int i)) v M R := .mk fun X F H vo vi vv ok Rl q1 q2 q3 => by
  obtain ⟨o, h1, h2⟩ := Rl.read hx
  cases o with
  | lst ws =>
    have h2' : DVs X.K F ws xs := h2
    exact PSet.se set_list ⟨a, ws, i, n, q1, dv_int' q2, h1, by rw [h2'.length]; exact hn, _, F, Fs.refl F, Rl.write (o' := .lst (xs.set n v)) hx (h2'.set q3 n), k⟩
  | _ => exact h2.elim
end
end Y

/-! Layer Y, part X: exceptions of own classes over ValueError whose __init__ says super().__init__(..) and stores its fields. -/
namespace Y
open PySem PySem.Spec PyProof.Rows L2

/-- the context of such an __init__ -/
def cxI (P : Program) (w : World) (K : PySem.W.Frag) (mg : Str → Option Value) (base : Heap) (N : List Str) (qual : Str) (scope : Scope) (f : Addr) (cd : Value) (cc : Addr) (A : Around) (outer : List Env) (s : Shared) (H : Hp) (E : XK) : Cx where
  prog := P
  w := w
  K := K
  mg := mg
  base := base
  A := A.deeper (PySem.W.ksEnv qual scope s.heap.objs.size f cd cc)
  N := N
  s_0 := s
  H_0 := H
  env := PySem.W.ksEnv qual scope s.heap.objs.size f cd cc
  outer := outer
  stack := PySem.W.ksEnv qual scope s.heap.objs.size f cd cc :: outer
  ex := []
  calm := true
  fn := fun _ => false
  pn := []
  xe := fun e s' => wpAny (model P w) (A.deeper (PySem.W.ksEnv qual scope s.heap.objs.size f cd cc)) (leaving (PySem.W.ksEnv qual scope s.heap.objs.size f cd cc) e) (fun _ s'' => L2.CX P w outer H s E e s'') (fun e' s'' => L2.CX P w outer H s E e' s'') s'

theorem lookup_app {α : Type} {x : Str} : ∀ (l m : List (Str × α)), (l ++ m).lookup x = match l.lookup x with | some v => some v | none => m.lookup x
  | [], m => rfl
  | (y, v) :: l, m => by
    show List.lookup x ((y, v) :: (l ++ m)) = match List.lookup x ((y, v) :: l) with | some v => some v | none => m.lookup x
    by_cases h : (x == y) = true
    · simp [List.lookup, h]
    · have h' : (x == y) = false := by simpa using h
      simp only [List.lookup, h']
      exact lookup_app l m
theorem lookup_none {α : Type} {x : Str} : ∀ (l : List (Str × α)), x ∉ l.map (·.1) → l.lookup x = none
  | [], _ => rfl
  | (y, v) :: l, h => by
    have h1 : x ≠ y := fun e => h (by simp [e])
    have h2 : (x == y) = false := by simpa using h1
    simp only [List.lookup, h2]
    exact lookup_none l fun z => h (List.mem_cons_of_mem _ z)
theorem lookup_rev {x : Str} {v : Value} : ∀ {ps : List Str} {us : List Value} {i : Nat}, ps.Nodup → ps.length = us.length → ps[i]? = some x → us[i]? = some v → (ps.zip us).reverse.lookup x = some v
  | [], _, _, _, _, h, _ => by simp at h
  | _ :: _, [], _, _, hl, _, _ => by simp at hl
  | p :: ps, u :: us, 0, nd, hl, h1, h2 => by
    simp at h1 h2
    subst h1 h2
    have hn : p ∉ ((ps.zip us).reverse).map (·.1) := fun z => by
      rw [List.map_reverse, List.mem_reverse] at z
      obtain ⟨q, hq, e⟩ := List.mem_map.mp z
      have := (List.of_mem_zip (show (q.1, q.2) ∈ ps.zip us from hq)).1
      rw [e] at this
      exact (List.nodup_cons.mp nd).1 this
    rw [List.zip_cons_cons, List.reverse_cons, lookup_app, lookup_none _ hn]
    simp [List.lookup]
  | p :: ps, u :: us, i + 1, nd, hl, h1, h2 => by
    have ih := lookup_rev (ps := ps) (us := us) (i := i) (List.nodup_cons.mp nd).2 (by simpa using hl) (by simpa using h1) (by simpa using h2)
    rw [List.zip_cons_cons, List.reverse_cons, lookup_app, ih]

/-- what the written part says of the class and of its __init__ -/
structure SupC (P : Program) (K : PySem.W.Frag) (C fI : Addr) (qual : Str) (params : Arguments) (body : List Stmt) (scope : Scope) (fd : FuncData) : Prop where
  cls : OexC K C
  fn : ∃ (oc : Value) (od : Option Addr) (osl : Array (Option Value)) (kV doc pm : Value) (an : Option Addr) (cda : Addr) (ct : Value) (cc : Addr) (ccl : Value) (cdd : Option Addr) (vs : Array Value) (ccs : Array (Option Value)) (file : Str) (tf : Tok) (cl : Value) (cld : Option Addr) (csl : Array (Option Value)),
    fd = PySem.W.ksFn "__init__" qual params body scope .none kV doc pm an (.ref cda) ct cc ∧ K.lookup fI = some ⟨oc, od, .func fd, osl⟩ ∧ PySem.W.codeIn K (.ref cda) qual = true ∧ K.lookup cda = some ⟨ccl, cdd, .fields vs, ccs⟩ ∧ vs[2]? = some (.str file tf) ∧ ((P.main.file : Str) == file) = true ∧ K.lookup cc = some ⟨cl, cld, .cell (some (.ref C)), csl⟩
  sup : PySem.W.ks_superIn K C C "__init__" = some (some (.builtin "ValueError.__init__"))
  sub : PySem.W.subIn K (.ref C) (.type "ValueError") = some true
  mro : PySem.W.mroIn K C (.ref C) = some true
  any : PySem.W.nsIn K cStatics "thirdparty.any" = some none
  top : (P.main.scope.names.lookup ("super" : Str)).isSome = false

section
variable {prog : Program} {w : World} {A : Around} {E : Value → Shared → Prop} {h : Heap} {g : Array GenState} {d : Drawn} {t : Nat} {os : OsState}
open PySem.W PySem.Calls in
theorem call_bwV {nm q : Str} {C N : Addr} {bs bm : List Value} {hdct : Bool} {sn : List Str} {sub : List Value} {ab : Bool} {col : Option Bool} {dd : Option Addr} {k0 k1 k2 k3 k5 : Option Value} {u e t0 : Addr} {rest : List Value} {Q : Value → Shared → Prop}
    (hC : h.get? C = some (excClassObj nm q C N bs bm hdct sn sub ab col dd k0 k1 k2 k3 k5 "ValueError.__new__")) (he : h.get? e = some (HandSPX.excO C t0)) (hu : h.get? u = some (kxs_mw "ValueError.__init__" e)) (hrest : rest.length ≤ sizeLine)
    (hq : ∀ h' t1, (∀ b o, b ≠ e → h.get? b = some o → h'.get? b = some o) → h'.get? e = some (HandSPX.excO C t1) → Q .none ⟨h', g, d, t, os⟩) :
    wpAny (model prog w) A (call (.ref u) rest) Q E ⟨h, g, d, t, os⟩ := by
  refine wpAny_call (codeAny_of_tree ?_)
  show wpAny _ A.in1 (callAny (.ref u) ⟨rest, []⟩) _ _ _
  simp only [callAny]
  refine wpAny_bind (wpAny_load hu ?_)
  simp only [kxs_mw, show (Value.type "method-wrapper" == Value.type "method" || Value.type "method-wrapper" == Value.type "builtin_function_or_method" || Value.type "method-wrapper" == Value.type "method-wrapper") = true by decide, if_true]
  refine W.KFB.if_so (by decide) ?_
  refine wpAny_bind (PySem.ESX.check_bound F.excBase_ValueError hC he rfl ?_)
  refine wpAny_bind (wpAny_pure (wpAny_pure ?_))
  refine ⟨Code.quiet_builtin _ (by decide +kernel), codeAny_builtin F.excBase_ValueError.initEntry ?_⟩
  rw [Around.under_plainId F.excBase_ValueError.init.plain _]
  wp_walk
  refine hq _ h.objs.size (fun b o hb ho => ?_) ?_
  · rw [Heap.get?_update_other _ _ (Ne.symm hb)]
    exact Heap.get?_push_of_some _ ho
  · rw [Heap.get?_update_self _ (Heap.get?_push_of_some _ he) rfl]
    rfl
end

/-! ### the __init__ -/
/-- scope of such an __init__: the parameters are all its names -/
structure IScope (ps : List Str) (sc : Scope) : Prop where
  kind : sc.kind = .function
  co : sc.isCoroutine = false
  gen : sc.isGenerator = false
  nd : ps.Nodup
  par : ∀ x ∈ ps, sc.names.lookup x = some .local
  nocell : ∀ y ∈ sc.names, y.2 ≠ .cell
  free : ∀ y ∈ sc.names, y.2 = .free → y.1 = "__class__"
  cls : sc.names.lookup ("__class__" : Str) = some .free
  sup : sc.names.lookup ("super" : Str) = some .globalImplicit
section
variable {P : Program} {w : World} {K : PySem.W.Frag} {mg : Str → Option Value} {base : Heap} {A : Around} {outer : List Env} {s : Shared} {H : Hp} {E : XK}
theorem inv_startI {ps : List Str} {qual : Str} {scope : Scope} {f cc : Addr} {cd cl : Value} {cld : Option Addr} {cv : Option Value} {csl : Array (Option Value)} {us : List Value} {vs : List V} {h1 : Heap} {tk : Nat}
    (S : IScope ps scope) (hd : A.handled = none) (e0 : Env0 P w K mg base A outer s H) (hl : vs.length = ps.length) (r : Vals vs us) (hcc : K.lookup cc = some ⟨cl, cld, .cell cv, csl⟩)
    (hns : h1.Ns s.heap.objs.size fun y => (ps.zip us).reverse.lookup y) (hk : ∀ b o, s.heap.get? b = some o → h1.get? b = some o) :
    Inv (cxI P w K mg base ps qual scope f cd cc A outer s H E) [] (start ps vs) H { s with heap := h1, toks := tk } := by
  have hcb := e0.bs _ _ (e0.mod.kin _ _ hcc)
  have lkc : ∀ {y : Str} {c : Addr}, (cxI P w K mg base ps qual scope f cd cc A outer s H E).env.cells.lookup y = some c → y = "__class__" ∧ c = cc := fun {y c} h => by
    have h' : List.lookup y [(("__class__" : Str), cc)] = some c := h
    by_cases hy : (y == ("__class__" : Str)) = true
    · simp [List.lookup, hy] at h'
      exact ⟨by simpa using hy, h'.symm⟩
    · have hy' : (y == ("__class__" : Str)) = false := by simpa using hy
      simp [List.lookup, hy'] at h'
  have nox : ∀ b : Addr, b ∉ (cxI P w K mg base ps qual scope f cd cc A outer s H E).ex := fun b z => absurd (show b ∈ ([] : List Addr) from z) (by simp)
  have hlen : us.length = ps.length := by rw [← hl]; exact (Paired.length r).symm
  refine ⟨⟨e0.mod, S.kind, rfl, rfl, Nat.le_refl _, fun y z c q1 q2 => ?_, fun y hy => ?_, fun y c q _ => absurd q (by show ¬ (false = true); decide), fun _ => hd, Around.frames_deeper e0.frames, .inr ⟨rfl, rfl⟩, fun b z => absurd z (nox b), e0.bs, e0.bsz, fun b _ _ => nox b, fun b z => absurd z (nox b), e0.funs, e0.frf⟩,
    rfl, e0.bare, Un.kept hk, ⟨_, hns, fun i y v q1 q2 q3 => ?_⟩, fun y c q => ?_, e0.hok.fresh (Nat.le_refl _), fun y c q => ?_, fun p hp => absurd (show p ∈ ([] : List (Addr × Obj)) from hp) (by simp), e0.hok.kept hk, ?_⟩
  · exact (lkc q1).1.trans (lkc q2).1.symm
  · have hy : scope.names.lookup y = some .cell ∨ scope.names.lookup y = some .free := hy
    rcases hy with hy | hy
    · exact absurd rfl (S.nocell _ (PySem.mem_of_lookup hy))
    · have e := S.free _ (PySem.mem_of_lookup hy) rfl
      have e' : y = "__class__" := e
      subst e'
      exact ⟨cc, by show List.lookup _ [(("__class__" : Str), cc)] = _; simp [List.lookup]⟩
  · have q2' : (vs.map some ++ List.replicate (ps.length - vs.length) none)[i]? = some (some v) := q2
    have hi : i < vs.length := by
      by_cases hi : i < vs.length
      · exact hi
      · rw [List.getElem?_append_right (by simpa using hi), List.getElem?_replicate] at q2'
        split at q2' <;> cases q2'
    have ha : vs[i]? = some v := by
      rw [List.getElem?_append_left (by simpa using hi), List.getElem?_map] at q2'
      cases e : vs[i]? with
      | none => rw [e] at q2'; cases q2'
      | some a => rw [e] at q2'; cases q2'; rfl
    obtain ⟨u, hu, rv⟩ := r.get ha
    have hp : ps[i]? = some y := q1
    exact ⟨u, rv, .inl ⟨S.par y (List.mem_of_getElem? hp), lookup_rev S.nd hlen.symm hp hu⟩⟩
  · obtain ⟨_, rfl⟩ := lkc q
    exact ⟨cv, _, hk _ _ hcb.1, rfl⟩
  · obtain ⟨_, rfl⟩ := lkc q
    exact hcb.2
  · show (vs.map some ++ List.replicate (ps.length - vs.length) none).length = ps.length
    rw [List.length_append, List.length_map, List.length_replicate]
    omega
/-- what is asked of the body behind super().__init__(e, ..) -/
def IBody (K : PySem.W.Frag) (sp : Sp) (C : Addr) : Sp := fun vs H Q E => ∃ a xs, vs = .ref a :: xs ∧ H a = some (exo a C none) ∧ sp vs H Q E
def SupCall (p0 p1 p2 p3 : Pos) (es : List Expr) : Prop := ∀ env : Env, ∃ pl : Sem Bool, eval (.Call (.Attribute (.Call (.Name "super" p0) [] [] p1) "__init__" p2) es [] p3) env = (do
      let ov ← attributeBase (.Call (.Name "super" p0) [] [] p1) "__init__" env (eval (.Call (.Name "super" p0) [] [] p1) env)
      standAt p2.atName
      let (f, first) ← holding [ov] (getMethod ov "__init__" pl)
      callWith p3 f first (backTo p3 (starEach es env)) [])
theorem init_fn {C fI : Addr} {qual : Str} {params : Arguments} {scope : Scope} {fd : FuncData} {p0 p1 p2 p3 p4 : Pos} {e : Expr} {es : List Expr} {rest : List Stmt} {ps : List Str} {sp : Sp} {k : Nat} {ar : Arg} {vn : Str}
    (S : SupC P K C fI qual params (.Expr (.Call (.Attribute (.Call (.Name "super" p0) [] [] p1) "__init__" p2) (e :: es) [] p3) p4 :: rest) scope fd) (Sc : IScope (vn :: ps) scope) (har : (params.posonlyargs ++ params.args).head? = some ar) (hvn : ar.arg = vn) (hsm : mg "super" = none)
    (hcall : SupCall p0 p1 p2 p3 (e :: es))
    (hes : ∀ env, starEach (e :: es) env = (false, eval e env) :: starEach es env) (hpl : ∀ env, (backTo p3 (starEach es env)).any (·.1) = false)
    (len : ∀ vs H Q E, sp vs H Q E → vs.length = ps.length + 1) (hat : ∀ vs H Q E, sp vs H Q E → ∃ a xs, vs = .ref a :: xs ∧ H a = some (exo a C none))
    (body : ∀ (cda cc : Addr) (A : Around) (outer : List Env) (s : Shared) (H : Hp) (vs : List V) (Q : VK) (E : XK), sp vs H Q E → ∃ (ta : TA) (t : TS) (xs : List V), PA (cxI P w K mg base (vn :: ps) qual scope fI (.ref cda) cc A outer s H E) (e :: es) ta ∧ PSs (cxI P w K mg base (vn :: ps) qual scope fI (.ref cda) cc A outer s H E) rest t ∧
      xs.length ≤ 1000 ∧ ta (start (vn :: ps) vs) H (fun us H1 => us = xs ∧ H1 = H) ∧ t { nx := fun _ H' => Q .non H', rt := Q } (start (vn :: ps) vs) H) :
    FnOk P w K mg base (L2.CX P w) (k + 1) fI fd (vn :: ps) sp := by
  obtain ⟨oc, od, osl, kV, doc, pm, an, cda, ct, cc, ccl, cdd, cvs, ccs, file, tf, cl, cld, csl, rfl, lk, hcode, lkcd, hv2, hfile, lkcc⟩ := S.fn
  refine ⟨len, fun A outer s H args us vs Q E hr e0 hb r hsp => ?_⟩
  have hl := len _ _ _ _ hsp
  obtain ⟨a, xs0, rfl, ha⟩ := hat _ _ _ _ hsp
  have KX : K.In s.heap := e0.mod.kin.keeps fun b o z => (e0.bs b o z).1
  have lim : s.heap.NoLimit := e0.mod.nolimit.keeps fun b o z => (e0.bs b o z).1
  refine PySem.ks_codeAny_call_defAt (binds := (vn :: ps).zip us) hr.depth (KX _ _ lk) rfl lim (PySem.W.codeRec_of KX hcode) rfl hb Sc.nocell (fun y hy => Sc.par _ (List.of_mem_zip (show (y.1, y.2) ∈ (vn :: ps).zip us from hy)).1) (fun h1 hns hk => ?_) Sc.co Sc.gen Sc.kind
  have I : Inv (cxI P w K mg base (vn :: ps) qual scope fI (.ref cda) cc A outer s H E) [] (start (vn :: ps) (.ref a :: xs0)) H { s with heap := h1, toks := s.toks + ((vn :: ps).zip us).length } := inv_startI Sc hr.hd e0 (by simpa using hl) r lkcc hns hk
  obtain ⟨ta, t, xs, hpa, hps, hxs, hta, ht⟩ := body cda cc A outer s H (.ref a :: xs0) Q E hsp
  have hr2 : L2.Room k (A.deeper (PySem.W.ksEnv qual scope s.heap.objs.size fI (.ref cda) cc)) := hr.deeper _
  have fin : ∀ {σ' : L2.St} {H' : Hp} {v : V} {u : Value} {s' : Shared}, Inv (cxI P w K mg base (vn :: ps) qual scope fI (.ref cda) cc A outer s H E) [] σ' H' s' → RelV v u → Q v H' → CE outer P w H s Q u s' :=
    fun {σ' H' v u s'} J rv q => ⟨v, H', J.os, J.bare, J.base, J.hok, rv, q⟩
  have hint : interactive (PySem.W.ksEnv qual scope s.heap.objs.size fI (.ref cda) cc) = false := by
    show (scope.kind == .module && _) = false
    rw [Sc.kind]
    rfl
  refine PySem.ks_wpAt_mono (Q := SP (cxI P w K mg base (vn :: ps) qual scope fI (.ref cda) cc A outer s H E) [] { nx := fun _ H' => Q .non H', rt := Q }) (E := (cxI P w K mg base (vn :: ps) qual scope fI (.ref cda) cc A outer s H E).xe) ?_ (fun fl s' hs => ?_) (fun e s' hs => hs)
  · refine PySem.ks_wpAt_execs_cons (PySem.ks_wpAt_Expr_any (PySem.ks_wpAt_MethodCall ?_ (Exists.choose_spec (hcall (PySem.W.ksEnv qual scope s.heap.objs.size fI (.ref cda) cc)))) hint rfl)
    obtain ⟨nm, q0, N0, bs0, bm0, sn0, sub0, ab0, col0, dd0, k0, k1, k2, k3, k5, hCo, hbm⟩ := S.cls.cls
    have hcl : ∃ cdD, PySem.W.clsIn K C = some cdD := by unfold PySem.W.clsIn; rw [hCo]; exact ⟨_, rfl⟩
    obtain ⟨cdD, hD⟩ := hcl
    have X1 : K.In h1 := I.kIn
    obtain ⟨oD, hD1, hD2⟩ : ∃ oD, h1.get? C = some oD ∧ oD.data = .cls cdD := by
      unfold PySem.W.clsIn at hD
      split at hD
      · rename_i c' d' cd' sl' ho
        cases hD
        exact ⟨_, X1 _ _ ho, rfl⟩
      · cases hD
    obtain ⟨t1, hob⟩ := exo_at I.hok ha
    obtain ⟨mb, hbn, hbb⟩ := I.ok.mod.blt
    refine PySem.ks_wpAt_super_base (env := PySem.W.ksEnv qual scope s.heap.objs.size fI (.ref cda) cc) Sc.sup Sc.cls rfl rfl (X1 _ _ lk) rfl har rfl (X1 _ _ lkcd) rfl hv2 hfile S.top ?_
    refine PySem.W.ks_loadName_global Sc.kind Sc.sup (PySem.Calls.loadGlobal_builtin (env := PySem.W.ksEnv qual scope s.heap.objs.size fI (.ref cda) cc) (I.ok.mod.glob.at fun o z => I.bk _ _ z) hsm (hbn.at fun o z => I.bk _ _ z) ((hbb _ (by decide +kernel)).trans (by decide +kernel : bootBuiltins "super" = some (.type "super"))) ⟨rfl, ?_⟩)
    refine wpAny_loadName_free Sc.kind Sc.cls rfl ⟨_, X1 _ _ lkcc, rfl⟩ ?_
    subst hvn
    cases r with
    | @cons _ u0 _ ur ra rr =>
    obtain rfl : u0 = Value.ref a := ra
    refine wpAny_loadName_local Sc.kind (Sc.par _ List.mem_cons_self) hns (lookup_rev (i := 0) Sc.nd (by have h1 := Paired.length rr; have h2 : xs0.length = ps.length := (by simpa using hl); show ps.length + 1 = ur.length + 1; omega) rfl rfl) ?_
    refine PySem.ks_wpAny_isType_cls hD1 hD2 ⟨rfl, ?_⟩
    refine PySem.ks_wpAny_call_super hD1 hD2 hob rfl (fun c z => by cases z) (PySem.W.looks_mroIn X1 S.mro) (fun h' hso kp => ?_)
    have X2 : K.In h' := fun b o z => kp _ _ (X1 b o z)
    have IA : PySem.W.InstAt h' a _ C none := ⟨kp _ _ hob, rfl, rfl, trivial⟩
    have hsup := S.sup
    unfold PySem.W.ks_superIn at hsup
    rw [hD] at hsup
    refine PySem.W.kxs_getMethod PySem.W.kxs_ValueError hso (PySem.W.looks_opaque X2 S.any) (l₀ := cdD.mro) (fun A Q E s k q => wpAny_bind ((PySem.W.looks_clsIn X2 hD) A _ E s k (wpAny_pure q))) rfl X2 hsup (IA.type.andThen (PySem.W.looks_subIn X2 S.sub)) (PySem.W.ks_ne X2 IA hD) rfl ?_
    have J : Inv (cxI P w K mg base (ar.arg :: ps) qual scope fI (.ref cda) cc A outer s H E) [(h'.objs.size, PySem.W.kxs_mw "ValueError.__init__" a)] (start (ar.arg :: ps) (.ref a :: xs0)) H { s with heap := h'.push (PySem.W.kxs_mw "ValueError.__init__" a), toks := s.toks + ((ar.arg :: ps).zip (Value.ref a :: ur)).length + 1 } := by
      have J0 := I.kept (h' := h'.push (PySem.W.kxs_mw "ValueError.__init__" a)) (t' := s.toks + ((ar.arg :: ps).zip (Value.ref a :: ur)).length + 1) (fun b o z => Heap.get?_push_of_some _ (kp _ _ z))
      have hsz : h1.objs.size ≤ h'.objs.size := Nat.le_of_lt (Heap.lt_size hso)
      refine J0.pins_of fun p hp => ?_
      rcases List.mem_singleton.mp hp with rfl
      exact ⟨Heap.get?_push_at rfl rfl, I.hok.fresh hsz, Nat.ne_of_gt (Nat.lt_of_lt_of_le I.lt hsz), I.nofs hsz, fun v z => by cases z⟩
    show wpAny _ _ (callWith p3 (.ref h'.objs.size) [] (backTo p3 (starEach (e :: es) _)) []) _ _ _
    rw [hes]
    refine PySem.W.kxs_callWith (i := "ValueError.__init__") (x := a) (by show (false || (backTo p3 (starEach es _)).any (·.1)) = false; rw [hpl]; rfl) (PySem.Calls.evalArgs_plain ?_)
    have hrun := hpa.run p3 _ _ _ _ _ J hta
    rw [hes] at hrun
    refine thn hrun fun us2 s2 hh => ?_
    obtain ⟨xs2, H2, J2, r2, exs, eH⟩ := hh
    subst exs eH
    refine ⟨(J2.pin _ (List.mem_append_right _ List.mem_cons_self)).1, ?_⟩
    obtain ⟨t2, ho2⟩ := exo_at J2.hok ha
    have hlen2 : us2.length ≤ sizeLine := by
      rw [← Paired.length r2, sizeLine_eq]
      omega
    have hpin := (J2.pin _ (List.mem_append_right _ List.mem_cons_self)).1
    obtain ⟨hp2, g2, d2, tk2, os2⟩ := s2
    refine call_bwV (J2.kIn _ _ hCo) ho2 hpin hlen2 fun h3 t3 k3 hx3 => ?_
    have J3 := (J2.pins_of (pins' := []) (fun p hp => absurd hp (by simp))).write (t' := tk2) (x := a) (e := a) (o := exo a C none) (by rw [ha]; exact True.intro) (.inl rfl) k3 ⟨_, hx3⟩ (exo_ok hx3)
    have eu : upd H2 a (exo a C none) = H2 := by
      funext b
      by_cases hb : b = a
      · rw [hb, upd_same, ha]
      · rw [upd_ne hb]
    rw [eu] at J3
    exact wpAt_of_wpAny (hps.run [] _ _ _ _ J3 ht)
  · cases fl with
    | ret u =>
      obtain ⟨v, σ', H', J, rv, q⟩ := hs
      exact fin J rv q
    | next =>
      obtain ⟨σ', H', J, q⟩ := hs
      exact fin (v := V.non) (u := Value.none) J rfl q
    | brk =>
      obtain ⟨_, _, _, q⟩ := hs
      exact False.elim q
    | cont =>
      obtain ⟨_, _, _, q⟩ := hs
      exact False.elim q
end
end Y

/-! Layer Y, part Z: raise, try, the caught exception's fields. -/
namespace Y
open PySem PySem.Spec PyProof.Rows L2
/-- the promise of such an __init__ : the fields are stored -/
def spX (C : Addr) (fs : List Str) : Sp := fun vs H Q _ => ∃ a ys, vs = .ref a :: ys ∧ ys.length = fs.length ∧ H a = some (exo a C none) ∧ ∀ dx, H dx = none → dx ≠ a → Q .non (upd (upd H dx (exd dx (fs.zip ys).reverse)) a (exo a C (some dx)))
section
variable {P : Program} {w : World} {K : PySem.W.Frag} {mg : Str → Option Value} {base : Heap}
theorem upd_twice {H : Hp} {a d : Addr} {x y z : HO} (h : d ≠ a) : upd (upd (upd H d x) a z) d y = upd (upd H d y) a z := by
  funext b
  by_cases h1 : b = d
  · subst h1; rw [upd_same, upd_ne h, upd_same]
  · rw [upd_ne h1]
    by_cases h2 : b = a
    · subst h2; rw [upd_same, upd_same]
    · rw [upd_ne h2, upd_ne h1, upd_ne h2, upd_ne h1]
theorem init1 {C fI : Addr} {qual : Str} {params : Arguments} {scope : Scope} {fd : FuncData} {p0 p1 p2 p3 p4 q0 q1 q2 q3 q4 : Pos} {f : Str} {k : Nat} {ar : Arg}
    (S : SupC P K C fI qual params [.Expr (.Call (.Attribute (.Call (.Name "super" p0) [] [] p1) "__init__" p2) [.Name f q0] [] p3) p4, .Assign [.Attribute (.Name "self" q1) f q2] (.Name f q3) q4] scope fd)
    (hcall : SupCall p0 p1 p2 p3 [.Name f q0]) (Sc : IScope ["self", f] scope) (har : (params.posonlyargs ++ params.args).head? = some ar) (hvn : ar.arg = "self") (hsm : mg "super" = none) (hf : PySem.W.findIn K (.ref C) f = some none)
    (d1 : (f == ("__debug__" : Str)) = false) (d2 : (f == ("__classdict__" : Str)) = false) :
    FnOk P w K mg base (L2.CX P w) (k + 1) fI fd ["self", f] (spX C [f]) := by
  refine init_fn S Sc har hvn hsm hcall (fun _ => rfl) (fun _ => rfl) (fun vs H Q E ⟨a, ys, e, hl, _⟩ => by subst e; simp [hl]) (fun vs H Q E ⟨a, ys, e, _, h, _⟩ => ⟨a, ys, e, h⟩) fun cda cc A outer s H vs Q E ⟨a, ys, e, hl, ha, hq⟩ => ?_
  match ys, hl with
  | [y], _ =>
  subst e
  have v0 : Vis scope "self" := .inl (Sc.par _ List.mem_cons_self)
  have v1 : Vis scope f := .inl (Sc.par _ (List.mem_cons_of_mem _ List.mem_cons_self))
  refine ⟨_, _, [y], pa_cons (pe_var (i := 1) rfl v1 d1 d2) pa_nil, pss_one (ps_ost (pe_var (i := 0) rfl v0) (pe_var (i := 1) rfl v1 d1 d2)), by simp, ⟨y, rfl, rfl, rfl⟩, ?_⟩
  exact ⟨y, rfl, _, rfl, a, C, rfl, S.cls, hf, .inl ⟨ha, fun dx hx hn => hq dx hx hn⟩⟩
theorem init2 {C fI : Addr} {qual : Str} {params : Arguments} {scope : Scope} {fd : FuncData} {p0 p1 p2 p3 p4 q0 q0' q1 q2 q3 q4 r1 r2 r3 r4 : Pos} {f g : Str} {k : Nat} {ar : Arg}
    (S : SupC P K C fI qual params [.Expr (.Call (.Attribute (.Call (.Name "super" p0) [] [] p1) "__init__" p2) [.Name f q0, .Name g q0'] [] p3) p4, .Assign [.Attribute (.Name "self" q1) f q2] (.Name f q3) q4, .Assign [.Attribute (.Name "self" r1) g r2] (.Name g r3) r4] scope fd)
    (hcall : SupCall p0 p1 p2 p3 [.Name f q0, .Name g q0']) (Sc : IScope ["self", f, g] scope) (har : (params.posonlyargs ++ params.args).head? = some ar) (hvn : ar.arg = "self") (hsm : mg "super" = none) (hf : PySem.W.findIn K (.ref C) f = some none) (hg : PySem.W.findIn K (.ref C) g = some none)
    (d1 : (f == ("__debug__" : Str)) = false) (d2 : (f == ("__classdict__" : Str)) = false) (d3 : (g == ("__debug__" : Str)) = false) (d4 : (g == ("__classdict__" : Str)) = false) :
    FnOk P w K mg base (L2.CX P w) (k + 1) fI fd ["self", f, g] (spX C [f, g]) := by
  refine init_fn S Sc har hvn hsm hcall (fun _ => rfl) (fun _ => rfl) (fun vs H Q E ⟨a, ys, e, hl, _⟩ => by subst e; simp [hl]) (fun vs H Q E ⟨a, ys, e, _, h, _⟩ => ⟨a, ys, e, h⟩) fun cda cc A outer s H vs Q E ⟨a, ys, e, hl, ha, hq⟩ => ?_
  match ys, hl with
  | [y, z], _ =>
  subst e
  have v0 : Vis scope "self" := .inl (Sc.par _ List.mem_cons_self)
  have v1 : Vis scope f := .inl (Sc.par _ (List.mem_cons_of_mem _ List.mem_cons_self))
  have v2 : Vis scope g := .inl (Sc.par _ (List.mem_cons_of_mem _ (List.mem_cons_of_mem _ List.mem_cons_self)))
  refine ⟨_, _, [y, z], pa_cons (pe_var (i := 1) rfl v1 d1 d2) (pa_cons (pe_var (i := 2) rfl v2 d3 d4) pa_nil), pss_cons (ps_ost (pe_var (i := 0) rfl v0) (pe_var (i := 1) rfl v1 d1 d2)) (pss_one (ps_ost (pe_var (i := 0) rfl v0) (pe_var (i := 2) rfl v2 d3 d4))), by simp, ⟨y, rfl, z, rfl, rfl, rfl⟩, ?_⟩
  refine ⟨y, rfl, _, rfl, a, C, rfl, S.cls, hf, .inl ⟨ha, fun dx hx hn => ?_⟩⟩
  refine ⟨z, rfl, _, rfl, a, C, rfl, S.cls, hg, .inr ⟨dx, [(f, y)], upd_same, by rw [upd_ne hn, upd_same], by simp, ?_⟩⟩
  rw [upd_twice hn]
  exact hq dx hx hn
end
/-- an exception class of the module -/
structure ExcD (g : GD) (x : Str) (C : Addr) (fs : List Str) : Prop where
  oex : OexC g.K C
  ini : ∃ fI fd, PySem.W.findIn g.K (.ref C) "__init__" = some (some (.ref fI)) ∧ PySem.W.typeIn g.K (.ref fI) = some (.type "function") ∧ FnOk g.P g.w g.K g.mg g.base (L2.CX g.P g.w) 1 fI fd ("self" :: fs) (spX C fs) ∧ L2.Binds g.K fd ("self" :: fs) []
  mgx : g.mg x = some (.ref C)
  few : fs.length ≤ 900
section
variable {C : Ct} {ρ : Rho} {M : MS}
theorem fa2_zip {K : PySem.W.Frag} {F : Hp} : ∀ (fs : List Str) {vs : List V} {ds : List D}, DVs K F vs ds → Fa2 (fun (p : Str × V) (q : Str × D) => p.1 = q.1 ∧ DV K F p.2 q.2) (fs.zip vs) (fs.zip ds)
  | [], _, _, _ => .nil
  | _ :: _, [], [], .nil => .nil
  | f :: fs, _ :: _, _ :: _, .cons q t => .cons ⟨rfl, q⟩ (fa2_zip fs t)
theorem ws_raise {x : Str} {Cl : Addr} {fs : List Str} {e : Expr} {es : List Expr} {p pos rpos : Pos} {E : EndD} (D : ExcD C.g x Cl fs) (hk : 2 ≤ C.k) (hc : C.calm = true) (hg : glB C.sc x = true)
    (he : ∀ env, starEach (e :: es) env = (false, eval e env) :: starEach es env) (hpl : ∀ env, (backTo pos (starEach es env)).any (·.1) = false)
    (h : WA C (e :: es) ρ M fun ds M1 => ds.length = fs.length ∧ C.E (.ref Cl) (fs.zip ds).reverse ρ M1) : WS C (.Raise (some (.Call (.Name x p) (e :: es) [] pos)) none rpos) ρ M E := .mk fun X F σ H at0 => by
  obtain ⟨hgl, hd, _⟩ := glB.ok hg
  obtain ⟨fI, fd, i1, i2, fok, bd⟩ := D.ini
  have o := at0.ok
  have eK : X.K = C.g.K := o.K
  have T : OexC X.K Cl := by rw [eK]; exact D.oex
  have fok' : FnOk X.prog X.w X.K X.mg X.base (L2.CX X.prog X.w) 1 fI fd ("self" :: fs) (spX Cl fs) := by rw [o.P, o.w, o.K, o.mg, o.base]; exact fok
  refine PS.se (ps_raise (o.calm.trans hc) o.takes (pmk_oex (CX := L2.CX X.prog X.w) T (by rw [eK]; exact i1) (by rw [eK]; exact i2) fok' ((o.room hc).mono hk) (by rw [eK]; exact bd) .nil (passes_call (E := fun _ _ _ => False) o.takes fun _ _ _ _ z => z.elim) (by show X.env.scope.names.lookup x = _; rw [o.sc]; exact hgl) (by rw [o.mg]; exact D.mgx) pa_s hd (he X.env) (hpl X.env))) ?_
  refine h.go at0 fun vs ds M1 F1 H1 s1 a1 q1 ⟨hl, hE⟩ => ?_
  have hlv : vs.length = fs.length := q1.length.trans hl
  refine ⟨by rw [hlv]; have := D.few; omega, fun a ha => ⟨a, vs ++ [], rfl, by rw [List.append_nil]; exact hlv, upd_same, fun dx hdx hne => ⟨rfl, dx, _, upd_same, by rw [upd_ne hne, upd_same], by rw [upd_ne hne] at hdx; exact hdx, ?_⟩⟩⟩
  rw [List.append_nil]
  have hdn : H1 dx = none := by rw [upd_ne hne] at hdx; exact hdx
  have eH : upd (L2.del (upd (upd (upd H1 a (exo a Cl none)) dx (exd dx (fs.zip vs).reverse)) a (exo a Cl (some dx))) a) dx (.xd (fs.zip vs).reverse) = upd H1 dx (.xd (fs.zip vs).reverse) := by
    funext b
    by_cases h1 : b = dx
    · subst h1; rw [upd_same, upd_same]
    · rw [upd_ne h1, upd_ne h1]
      by_cases h2 : b = a
      · subst h2; rw [del_same, ha]
      · rw [L2.del_ne h2, upd_ne h2, upd_ne h1, upd_ne h2]
  rw [eH]
  obtain ⟨s2, R2⟩ := a1.rel.grow (u := .xd (fs.zip vs).reverse) hdn
  exact ⟨ρ, M1, _, (fs.zip ds).reverse, s1.trans s2, a1.nm, a1.sg.mono s2, R2, ⟨_, upd_same, ((fa2_zip fs q1).mono fun _ _ z => ⟨z.1, z.2.mono s2⟩).reverse⟩, hE⟩

/-! ### try -/
def Ct.tr (C : Ct) (E : XR) : Ct := { C with E := E, hot := none }
def Ct.suite (C : Ct) (a : Addr) (cls : Value) (fs : List (Str × D)) : Ct := { C with calm := false, E := fun _ _ _ _ => False, hot := some (a, cls, fs) }
def NamesD (g : GD) (sc : Scope) (x : Str) (c : Value) : Prop := glB sc x = true ∧ (g.mg x = some c ∨ (g.mg x = none ∧ bootBuiltins x = some c))
/-- the clauses, one behind the other, for an exception of the class cls with the fields fs -/
def HsD (C : Ct) (E : EndD) (cls : Value) (fs : List (Str × D)) (ρ : Rho) (M : MS) : List ExceptHandler → Prop
  | [] => C.E cls fs ρ M
  | .ExceptHandler (some (.Name x _)) none (b0 :: suite) _ :: r => ∃ c b, NamesD C.g C.sc x c ∧ PySem.W.exmOne C.g.K cls c = some b ∧ if b = true then ∀ a, WSs (C.suite a cls fs) (b0 :: suite) ρ M E else HsD C E cls fs ρ M r
  | .ExceptHandler (some (.Name x _)) (some n) (b0 :: suite) _ :: r => ∃ c b, NamesD C.g C.sc x c ∧ PySem.W.exmOne C.g.K cls c = some b ∧
      if b = true then (C.N.contains n = true ∧ C.sc.names.lookup n = some .local) ∧ ∀ a, WSs (C.suite a cls fs) (b0 :: suite) (st ρ n (some (.r a))) M { nx := fun ρ' M' => E.nx (st ρ' n none) M', rt := E.rt, bk := fun ρ' M' => E.bk (st ρ' n none) M', ct := fun ρ' M' => E.ct (st ρ' n none) M' } else HsD C E cls fs ρ M r
  | _ => False
theorem names_ok {X : Cx} {F : Hp} {x : Str} {c : Value} (o : CtOk C X F) (h : NamesD C.g C.sc x c) : Names X x c := by
  obtain ⟨hg, h⟩ := h
  obtain ⟨h1, h2, h3⟩ := glB.ok hg
  refine ⟨by show X.env.scope.names.lookup x = _; rw [o.sc]; exact h1, h2, ?_⟩
  rw [o.mg]
  rcases h with h | ⟨h, h'⟩
  · exact .inl h
  · exact .inr ⟨h, h', h3⟩
theorem suite_ok {X : Cx} {F : Hp} {a : Addr} {cls : Value} {fs : List (Str × D)} {oe : Obj} {pn : List (Addr × Obj)} {d : Option Addr} (o : CtOk C X F) (h1 : Zc cls d oe) (h2 : ∃ vs, oe.data = .fields vs) (h3 : ExV X.K F d fs) : CtOk (C.suite a cls fs) (X.suite a ((a, oe) :: pn)) F where
  P := o.P
  w := o.w
  K := o.K
  mg := o.mg
  base := o.base
  sc := o.sc
  N := o.N
  nd := o.nd
  calm := rfl
  room := fun h => by cases h
  fn := o.fn
  pass := PassesOwn.never
  takes := takesF
  stk := o.stk
  hot := ⟨X, oe, pn, d, rfl, h1, h2, h3⟩
theorem ws_try {body : List Stmt} {h0 : ExceptHandler} {hds : List ExceptHandler} {pos : Pos} {E : EndD} (hf : C.fnc = true) (h : WSs (C.tr fun cls fs ρ' M' => HsD C E cls fs ρ' M' (h0 :: hds)) body ρ M E) : WS C (.Try body (h0 :: hds) [] [] pos) ρ M E := .mk fun X F σ H at0 pins s I => by
  have o := at0.ok
  have ok := I.ok
  obtain ⟨hstk, hfr⟩ := o.stk hf
  have hA : X.A.frames = some (X.env :: X.outer) := by rw [ok.frames, hstk]
  refine wpAny_Try_except ?_
  -- what the body's exceptions come to
  have tkB : Takes (X.tr (X.pn ++ pins) (fun u t => wpAny (model X.prog X.w) X.A (noteFrame u X.env) (fun _ t2 => wpAny (model X.prog X.w) X.A (setFlight u none) (fun _ t3 => wpAny (model X.prog X.w) X.A (handleBy u X.env (h0 :: hds)) (SP X pins (UpE C.N X.K F E)) X.xe t3) X.xe t2) X.xe t)) (LEs C.N X.K F fun cls fs ρ' M' => HsD C E cls fs ρ' M' (h0 :: hds)) := by
    rintro u t ⟨a, B, sI, pins', σ', H', cls, d, rfl, J', nb, up, sky, na, os, ag, ρ', M', F', fs, sF, nm', sg', R', xv, hd⟩
    have J : Inv X pins σ' H' sI := J'.ofTry ok
    have skyB : Sky B (X.env :: X.outer) a (Zc cls d) X.env.locals t.heap := by rw [← hstk]; exact sky
    refine Sky.land Zc.steady hA hfr skyB fun g3 fl upg => ?_
    have J3 : Inv X pins σ' H' { t with heap := g3 } := J.landed nb fl.1 (up.trans upg) os ag
    obtain ⟨oe, vsE, getE, zcE, dataE⟩ := fl.there
    have away : a ∉ frs (X.env :: X.outer) := fun hm => by
      obtain ⟨_, o2, g2, hno⟩ := fl.2.2.1.mem hm
      rw [getE] at g2
      cases g2
      exact hno _ dataE
    have aL : a ≠ X.env.locals := fun z => away (List.mem_filterMap.mpr ⟨X.env, List.mem_cons_self, by rw [hfr, z]⟩)
    have aF : a ∉ X.fs := fun hm => by
      obtain ⟨e2, m2, q2⟩ := List.mem_filterMap.mp hm
      exact away (List.mem_filterMap.mpr ⟨e2, List.mem_cons_of_mem _ m2, q2⟩)
    have J4 := J3.suite getE dataE na aL aF
    have at1 : At C ρ' M' X F' σ' H' := ⟨o.mono sF, nm', sg', R'⟩
    have typ : PySem.W.Looks (model X.prog X.w) g3 (typeOf (.ref a)) cls := fun A2 Q2 E2 t2 kk qq => wpAny_typeOf_ref (kk _ _ getE) (by rw [zcE.1]; exact qq)
    -- the name of the clause is looked up, the class is asked
    have ask : ∀ {x : Str} {np : Pos} {c : Value} {b : Bool} {Q2 : Bool → Shared → Prop} {E1 E2 : Value → Shared → Prop}, NamesD C.g C.sc x c → PySem.W.exmOne C.g.K cls c = some b → Q2 b { t with heap := g3 } →
        wpAny (model X.prog X.w) (X.A.mark (some (.ref a))) (eval (.Name x np) X.env) (fun c' t2 => wpAny (model X.prog X.w) (X.A.mark (some (.ref a))) (excMatches (.ref a) c') Q2 E1 t2) E2 { t with heap := g3 } := fun {x np c b Q2 E1 E2} hn he hq => by
      have LM := PySem.W.exm_one (M := model X.prog X.w) J3.kIn typ (by rw [o.K]; exact he)
      obtain ⟨n1, n2, n3 | ⟨n3, n4, n5⟩⟩ := names_ok o hn
      · exact ld_glob (X := X.suite a ((a, oe) :: (X.pn ++ pins))) J4 n1 n3 (LM.here hq) n2
      · exact ld_blt (X := X.suite a ((a, oe) :: (X.pn ++ pins))) J4 n1 n3 n4 (LM.here hq) n5 n2
    have go : ∀ l : List ExceptHandler, HsD C E cls fs ρ' M' l → wpAny (model X.prog X.w) X.A (handleBy (.ref a) X.env l) (SP X pins (UpE C.N X.K F E)) X.xe { t with heap := g3 } := by
      intro l
      induction l with
      | nil =>
        intro hw
        refine wpAny_handleBy_nil ?_
        obtain ⟨_, _, _, oz, vz, T, oT, tz, gz, _, dz, fz, _⟩ := id fl
        unfold PySem.passOn
        refine wpAny_bind (wpAny_field gz dz fz ?_)
        rw [if_neg (show ¬ ((Value.ref T == Value.none) = true) from by simp)]
        have thr : wpAny (model X.prog X.w) X.A (setFlight (.ref a) X.env.frame) (fun _ t4 => wpAny (model X.prog X.w) X.A (throw (.ref a) : Sem Flow) (SP X pins (UpE C.N X.K F E)) X.xe t4) X.xe { t with heap := g3 } := by
          rw [hfr]
          refine HandSPX.setFlight_upZ fl fun g5 held5 up5 => wpAny_throw (o.takes _ _ ?_)
          exact ⟨a, B, sI, pins, σ', H', cls, d, rfl, J, nb, (up.trans upg).trans up5, .inr (.inr (by rw [hstk]; exact held5)), na, os, ag, ρ', M', F', fs, sF, nm', sg', R', xv, hw⟩
        first
          | exact wpAny_bind (wpAny_pure (wpAny_bind thr))
          | exact wpAny_bind thr
      | cons hh l ih =>
        intro hw
        match hh, hw with
        | .ExceptHandler (some (.Name x np)) none (b0 :: suite) hpos, hw =>
          obtain ⟨c, b, hn, hm, hw⟩ := hw
          refine wpAny_handleBy_cons (codeAny_handlers_test ?_) (by intro q; cases q)
          refine ask hn hm ?_
          cases b with
          | false => exact ih hw
          | true =>
            refine codeAny_handlers_suite ?_
            refine HandSPX.lands_againZ fl fun g6 fl6 up6 => ?_
            have K6 : Inv X pins σ' H' { t with heap := g6 } := J.landed nb fl6.1 ((up.trans upg).trans up6) os ag
            obtain ⟨o6, v6, get6, zc6, data6⟩ := fl6.there
            have S6 := K6.suite get6 data6 na aL aF
            have run := hw a (X.suite a ((a, o6) :: (X.pn ++ pins))) F' σ' H' ⟨suite_ok (o.mono sF) zc6 ⟨_, data6⟩ xv, nm', sg', R'⟩ [] _ S6
            refine wpAny_mono run (fun f t7 hsp => ?_) (fun _ _ z => False.elim z)
            cases f with
            | next => obtain ⟨σ7, H7, S7, q7⟩ := hsp; exact ⟨_, _, S7.unsuite ok, UpS.back sF q7⟩
            | brk => obtain ⟨σ7, H7, S7, q7⟩ := hsp; exact ⟨_, _, S7.unsuite ok, UpS.back sF q7⟩
            | cont => obtain ⟨σ7, H7, S7, q7⟩ := hsp; exact ⟨_, _, S7.unsuite ok, UpS.back sF q7⟩
            | ret u => obtain ⟨v7, σ7, H7, S7, r7, q7⟩ := hsp; exact ⟨_, _, _, S7.unsuite ok, r7, Up.back sF q7⟩
        | .ExceptHandler (some (.Name x np)) (some n) (b0 :: suite) hpos, hw =>
          obtain ⟨c, b, hn, hm, hw⟩ := hw
          refine wpAny_handleBy_cons (codeAny_handlers_test ?_) (by intro q; cases q)
          refine ask hn hm ?_
          cases b with
          | false => exact ih hw
          | true =>
            obtain ⟨⟨hin, hln⟩, hw⟩ := hw
            obtain ⟨i, hi⟩ := List.getElem?_of_mem (List.contains_iff_mem.mp hin)
            have hiX : X.N[i]? = some n := by rw [o.N]; exact hi
            have hlX : X.env.kindOf n = some .local := by show X.env.scope.names.lookup n = _; rw [o.sc]; exact hln
            refine codeAny_handlers_suite_as ?_
            refine HandSPX.lands_againZ fl fun g6 fl6 up6 => ?_
            have K6 : Inv X pins σ' H' { t with heap := g6 } := J.landed nb fl6.1 ((up.trans upg).trans up6) os ag
            obtain ⟨o6, v6, get6, zc6, data6⟩ := fl6.there
            have S6 := K6.suite get6 data6 na aL aF
            have nd : X.N.Nodup := by rw [o.N]; exact o.nd
            refine store_ok (X := X.suite a ((a, o6) :: (X.pn ++ pins))) (v := .ref a) S6 nd hiX (.inl hlX) rfl (fun t5 S5 => ?_) (.inr hlX)
            have hi' : (ρ'.map (·.1))[i]? = some n := by rw [nm']; exact hi
            have sg5 : Sg X.K F' (st ρ' n (some (.r a))) (σ'.set i (some (.ref a))) := Sg.set (d := D.r a) rfl sg' (by rw [nm']; exact o.nd) hi'
            have run := hw a (X.suite a ((a, o6) :: (X.pn ++ pins))) F' _ H' ⟨suite_ok (o.mono sF) zc6 ⟨_, data6⟩ xv, (st_names _ _ _).trans nm', sg5, R'⟩ [] t5 S5
            have bye : ∀ {σ7 : L2.St} {H7 : Hp} {R : Rho → MS → Prop} {Q : Shared → Prop} {t7 : Shared}, Inv (X.suite a ((a, o6) :: (X.pn ++ pins))) [] σ7 H7 t7 → UpS C.N X.K F' (fun ρ8 M8 => R (st ρ8 n none) M8) σ7 H7 →
                (∀ t8, Inv X pins (σ7.set i none) H7 t8 → UpS C.N X.K F R (σ7.set i none) H7 → Q t8) → wpAny (model X.prog X.w) X.A (do bindName X.env n .none; unbindBehindTheSuite X.env n hpos) (fun _ t8 => Q t8) X.xe t7 := fun {σ7 H7 R Q t7} S7 hup hq => by
              obtain ⟨ρ8, M8, F8, s8, n8, sg8, R8, q8⟩ := hup
              refine gone_ok (S7.unsuite ok) nd hiX hlX fun t8 I8 => hq t8 I8 ?_
              exact ⟨st ρ8 n none, M8, F8, sF.trans s8, (st_names _ _ _).trans n8, Sg.unset sg8 (by rw [n8]; exact o.nd) (by rw [n8]; exact hi), R8, q8⟩
            refine wpAny_mono run (fun f t7 hsp => ?_) (fun _ _ z => False.elim z)
            cases f with
            | next => obtain ⟨σ7, H7, S7, q7⟩ := hsp; exact bye S7 q7 fun t8 I8 u8 => ⟨_, _, I8, u8⟩
            | brk => obtain ⟨σ7, H7, S7, q7⟩ := hsp; exact bye S7 q7 fun t8 I8 u8 => ⟨_, _, I8, u8⟩
            | cont => obtain ⟨σ7, H7, S7, q7⟩ := hsp; exact bye S7 q7 fun t8 I8 u8 => ⟨_, _, I8, u8⟩
            | ret u =>
              obtain ⟨v7, σ7, H7, S7, r7, q7⟩ := hsp
              exact gone_ok (S7.unsuite ok) nd hiX hlX fun t8 I8 => ⟨_, _, _, I8, r7, Up.back sF q7⟩
    exact go _ hd
  have okT : CtOk (C.tr fun cls fs ρ' M' => HsD C E cls fs ρ' M' (h0 :: hds)) (X.tr (X.pn ++ pins) (fun u t => wpAny (model X.prog X.w) X.A (noteFrame u X.env) (fun _ t2 => wpAny (model X.prog X.w) X.A (setFlight u none) (fun _ t3 => wpAny (model X.prog X.w) X.A (handleBy u X.env (h0 :: hds)) (SP X pins (UpE C.N X.K F E)) X.xe t3) X.xe t2) X.xe t)) F :=
    ⟨o.P, o.w, o.K, o.mg, o.base, o.sc, o.N, o.nd, o.calm, o.room, o.fn, PassesOwn.looking, tkB, o.stk, trivial⟩
  refine wpAny_mono (h _ F σ H ⟨okT, at0.nm, at0.sg, at0.rel⟩ [] s (I.toTry _)) (fun f t1 hsp => ?_) (fun _ _ z => z)
  cases f with
  | next => obtain ⟨σ1, H1, J1, q1⟩ := hsp; exact wpAny_execs_nil ⟨_, _, J1.ofTry ok, q1⟩
  | brk => obtain ⟨σ1, H1, J1, q1⟩ := hsp; exact ⟨_, _, J1.ofTry ok, q1⟩
  | cont => obtain ⟨σ1, H1, J1, q1⟩ := hsp; exact ⟨_, _, J1.ofTry ok, q1⟩
  | ret u => obtain ⟨v1, σ1, H1, J1, r1, q1⟩ := hsp; exact ⟨_, _, _, J1.ofTry ok, r1, q1⟩
end
end Y

/-! Layer Y, part I: isinstance, fields of a caught exception. -/
namespace Y
open PySem PySem.Spec PyProof.Rows L2
/-- what the class of a caught exception says -/
structure ExcF (K : PySem.W.Frag) (C : Addr) (fs : List Str) : Prop where
  xf : XfC K C
  no : ∀ f ∈ fs, PySem.W.findIn K (.ref C) f = some none
  cl : (PySem.W.clsIn K C).isSome = true
  ha : PySem.W.findIn K (.ref C) "__class__" = some (some (.builtin "object.__class__"))
  hn : PySem.W.specialIn K (.builtin "object.__class__") "__get__" = some (some (.builtin "getset_descriptor.__get__"))
  ht : PySem.W.takesIn K (.builtin "object.__class__") = some true
  hm : PySem.W.mroIn K C (.type "object") = some true
def tyN (M : MS) : D → Option String
  | .d .none => some "NoneType"
  | .d (.bool _) => some "bool"
  | .d (.int _) => some "int"
  | .d (.str _) => some "str"
  | .d (.list _) => some "list"
  | .d (.tuple _) => some "tuple"
  | .d (.dict _) => none
  | .r a => match M.m a with
    | some (.lst _) => some "list"
    | some (.dct _) => some "dict"
    | some (.dcT _) => some "dict"
    | _ => none
theorem tyN_ok {K : PySem.W.Frag} {F H : Hp} {M : MS} {v : V} {d : D} {t : String} (R : Rel K M F H) (q : DV K F v d) (h : tyN M d = some t) : TyX K H v (.type t) := by
  cases d with
  | d x =>
    cases x with
    | none => cases dv_non' q; cases h; exact .base .non
    | bool b => cases dv_bool q; cases h; exact .base (.bl _)
    | int b => cases dv_int' q; cases h; exact .base (.int _)
    | str b => cases dv_str' q; cases h; exact .base (.str _)
    | list xs =>
      obtain ⟨a, vs, rfl, h1, _⟩ := dv_lst q
      cases h
      rcases SqL.mono R.sub h1 with h1 | ⟨o, _, _, h1, h2, _⟩
      · rcases h1 with h1 | ⟨o, h1⟩
        · exact .base (.lst h1)
        · exact .base (.frz h1)
      · exact .kList h1 h2
    | tuple xs =>
      obtain ⟨a, vs, rfl, h1, _⟩ := dv_tup q
      cases h
      rcases SqT.mono R.sub h1 with h1 | ⟨o, _, _, h1, h2, _⟩
      · rcases h1 with h1 | ⟨o, h1⟩
        · exact .base (.tup h1)
        · exact .fTuple h1
      · exact .kTuple h1 h2
    | dict _ => cases h
  | r a =>
    cases (show v = .ref a from q)
    unfold tyN at h
    dsimp only at h
    cases e : M.m a with
    | none => rw [e] at h; cases h
    | some o =>
      rw [e] at h
      obtain ⟨u, h3, h4⟩ := R.read e
      cases o with
      | lst xs => cases h; cases u <;> first | exact h4.elim | exact .base (.lst h3)
      | dct xs => cases h; cases u <;> first | exact h4.elim | exact .base (.dK h3)
      | dcT xs => cases h; cases u <;> first | exact h4.elim | exact .base (.dT h3)
      | ins _ _ _ => cases h
section
variable {C : Ct} {ρ : Rho} {M : MS}
theorem cls_pe {X : Cx} {F : Hp} {x : Str} {pos : Pos} {u : Value} {c : V} (o : CtOk C X F) (h : NamesD C.g C.sc x u) (r : RelV c u) : PE X (.Name x pos) (fun _ H Q => Q c H) := ⟨fun pins s σ H Q I hq => by
  obtain ⟨n1, n2, n3 | ⟨n3, n4, n5⟩⟩ := names_ok o h
  · exact ld_glob I n1 n3 ⟨c, H, I, r, hq⟩ n2
  · exact ld_blt I n1 n3 n4 ⟨c, H, I, r, hq⟩ n5 n2⟩
/-- isinstance's answer -/
def IsiD (C : Ct) (M : MS) (d : D) (u : Value) (R : Bool → Prop) : Prop :=
  (∃ t b, tyN M d = some t ∧ PySem.W.kitOne C.g.K (.type t) u = some b ∧ R b) ∨ ∃ a E fs ns b, d = .r a ∧ C.hot = some (a, .ref E, fs) ∧ ExcF C.g.K E ns ∧ PySem.W.kitOne C.g.K (.ref E) u = some b ∧ R b
theorem hot_inst {X : Cx} {F : Hp} {pins : List (Addr × Obj)} {σ : L2.St} {H : Hp} {s : Shared} {a E : Addr} {fs : List (Str × D)} (o : CtOk C X F) (sub : Fs F H) (I : Inv X pins σ H s) (hh : C.hot = some (a, .ref E, fs)) : ∃ oe od, PySem.W.InstAt s.heap a oe E od := by
  have h := o.hot
  rw [hh] at h
  obtain ⟨X0, oe, pn, d, eX, hz, ⟨vs, hd⟩, xv⟩ := h
  subst eX
  obtain ⟨hget, _⟩ := I.pin (a, oe) (List.mem_append_left _ List.mem_cons_self)
  have hno : PySem.W.notCls oe = true := by unfold PySem.W.notCls; rw [hd]
  cases d with
  | none => exact ⟨oe, none, hget, hz.1, hno, by rw [hz.2]; trivial⟩
  | some dd =>
    obtain ⟨fv, h1, _⟩ := xv
    obtain ⟨mA, hns, _⟩ := (show ObjOk _ _ H s.heap dd (.xd fv) from I.hok dd _ (sub _ _ h1))
    obtain ⟨od, ho, _⟩ := lookIn_ns hns
    exact ⟨oe, some od, hget, hz.1, hno, by rw [hz.2]; exact ho⟩
theorem we_isi {x : Str} {e : Expr} {p q pos : Pos} {u : Value} {c : V} {Q : D → MS → Prop} (hm : C.g.mg "isinstance" = none) (hg : glB C.sc "isinstance" = true) (hn : NamesD C.g C.sc x u) (hc : ClsV c u)
    (he : ∀ env, starEach [e, .Name x q] env = (false, eval e env) :: starEach [.Name x q] env) (h : WE C e ρ M fun d M1 => IsiD C M1 d u fun b => Q (.d (.bool b)) M1) : WE C (.Call (.Name "isinstance" p) [e, .Name x q] [] pos) ρ M Q := .mk fun X F σ H at0 => by
  obtain ⟨hgl, hd, hnn⟩ := glB.ok hg
  have o := at0.ok
  have eK : X.K = C.g.K := o.K
  have rc : RelV c u := by cases hc <;> exact rfl
  refine PE.se (pe_callB (id := "isinstance") call_s (by show X.env.scope.names.lookup _ = _; rw [o.sc]; exact hgl) (by rw [o.mg]; exact hm) (by decide +kernel) (pa_cons pe_s (pa_cons (cls_pe o hn rc) pa_nil rfl) (he X.env)) hnn hd (he X.env) rfl) ?_
  refine h.go at0 fun v d M1 F1 H1 s1 a1 q1 h1 => ?_
  rcases h1 with ⟨t, b, ht, hk, hR⟩ | ⟨a, E, fs, ns, b, rfl, hh, xf, hk, hR⟩
  · refine CallR.se call_isi ⟨v, c, _, u, b, rfl, hc, tyN_ok a1.rel q1 ht, by rw [eK]; exact hk, ?_⟩
    exact ⟨_, M1, F1, s1, a1.rel, dv_bl, hR⟩
  · cases (show v = .ref a from q1)
    intro pins s σ' us I r
    obtain ⟨u1, u2, rfl, r1, r2⟩ := vals2 r
    cases (show u1 = Value.ref a from r1)
    have e2 := hc.eq r2
    subst e2
    obtain ⟨oe, od, J⟩ := hot_inst (a1.ok) a1.rel.sub I hh
    have xf' : ExcF X.K E ns := by rw [eK]; exact xf
    exact PySem.W.kia_one (PySem.W.kitx_exc (ox := oe) (od := od) xf'.cl xf'.xf.ga xf'.xf.gg xf'.xf.exC xf'.ha xf'.hn xf'.ht xf'.hm) I.kIn J (by rw [eK]; exact hk) (fun z => nomatch z) fun tk => ⟨.bl b, H1, I.tok tk, rfl, _, M1, F1, s1, a1.rel, dv_bl, hR⟩
theorem fa2_lookup {K : PySem.W.Frag} {F : Hp} {n : Str} {d : D} : ∀ {fv : List (Str × V)} {fs : List (Str × D)}, Fa2 (fun p q => p.1 = q.1 ∧ DV K F p.2 q.2) fv fs → fs.lookup n = some d → ∃ v, fv.lookup n = some v ∧ DV K F v d
  | _, _, .nil, h => by cases h
  | (f, v) :: fv, (g, y) :: fs, .cons ⟨h1, h2⟩ t, h => by
    have h1' : f = g := h1
    subst h1'
    by_cases hn : (n == f) = true
    · simp only [List.lookup, hn] at h ⊢
      cases h
      exact ⟨v, rfl, h2⟩
    · have hn' : (n == f) = false := by simpa using hn
      simp only [List.lookup, hn'] at h ⊢
      exact fa2_lookup t h
/-- e.f in an except suite -/
theorem we_xf {e : Expr} {n : Str} {pos : Pos} {a E : Addr} {fs : List (Str × D)} {ns : List Str} {Q : D → MS → Prop} (hh : C.hot = some (a, .ref E, fs)) (xf : ExcF C.g.K E ns) (hns : n ∈ ns) (hb : ∀ env, attributeBase e n env (eval e env) = eval e env)
    (h : WE C e ρ M fun x M1 => x = .r a ∧ ∃ d, fs.lookup n = some d ∧ Q d M1) : WE C (.Attribute e n pos) ρ M Q := .mk fun X F σ H at0 => by
  have o := at0.ok
  have hot := o.hot
  rw [hh] at hot
  obtain ⟨X0, oe, pn, d, eX, hz, hf, xv⟩ := hot
  have eK : X.K = C.g.K := o.K
  have h1 : XfC X.K E := by rw [eK]; exact xf.xf
  have h2 : PySem.W.findIn X.K (.ref E) n = some none := by rw [eK]; exact xf.no n hns
  have hW := h X F σ H at0
  subst eX
  refine PE.se (pe_xf h1 h2 hz hf pe_s (hb _)) ?_
  refine tse_mono hW fun v H' ⟨dd, M1, F1, s1, R1, q1, ex, y, hl, hq⟩ => ?_
  subst ex
  refine ⟨q1, rfl, ?_⟩
  cases d with
  | none =>
    cases (show fs = [] from xv)
    cases hl
  | some dx =>
    obtain ⟨fv, f1, f2⟩ := xv
    obtain ⟨w, g1, g2⟩ := fa2_lookup (f2.mono fun _ _ z => ⟨z.1, z.2.mono s1⟩) hl
    exact ⟨dx, fv, w, rfl, R1.sub _ _ (s1 _ _ f1), g1, y, M1, F1, s1, R1, g2, hq⟩
end
end Y

/-! Layer Y, part G: dicts with texts and numbers as keys, any, all, texts repeated. -/
namespace Y
open PySem PySem.Spec PyProof.Rows L2
section
variable {C : Ct} {ρ : Rho} {M : MS} {Q : D → MS → Prop}
def keyD : Key → D
  | .inl i => .d (.int i)
  | .inr x => .d (.str x)
def vaD {κ : Type} [DecidableEq κ] (kvs : List (κ × D)) (k : κ) : Option D := (kvs.find? fun kv => decide (kv.1 = k)).map (·.2)
def puD {κ : Type} [DecidableEq κ] (kvs : List (κ × D)) (k : κ) (v : D) : List (κ × D) :=
  if (kvs.any fun kv => decide (kv.1 = k)) = true then kvs.map (fun kv => if kv.1 = k then (kv.1, v) else kv) else kvs ++ [(k, v)]
abbrev KR (K : PySem.W.Frag) (F : Hp) {κ : Type} : κ × V → κ × D → Prop := fun p q => p.1 = q.1 ∧ DV K F p.2 q.2
theorem va_fa2 {κ : Type} [DecidableEq κ] {K : PySem.W.Frag} {F : Hp} {k : κ} : ∀ {kv : List (κ × V)} {ks : List (κ × D)}, Fa2 (KR K F) kv ks → match vaD ks k with | some d => ∃ v, valV kv k = some v ∧ DV K F v d | none => valV kv k = none
  | _, _, .nil => rfl
  | (a, v) :: kv, (b, d) :: ks, .cons ⟨h1, h2⟩ t => by
    have h1' : a = b := h1
    subst h1'
    have ih := va_fa2 (k := k) t
    unfold vaD valV at ih ⊢
    by_cases e : a = k
    · simp only [List.find?, decide_eq_true e, Option.map_some]
      exact ⟨v, rfl, h2⟩
    · simp only [List.find?, decide_eq_false e]
      exact ih
theorem any_fa2 {κ : Type} [DecidableEq κ] {K : PySem.W.Frag} {F : Hp} {k : κ} : ∀ {kv : List (κ × V)} {ks : List (κ × D)}, Fa2 (KR K F) kv ks → (kv.any fun p => decide (p.1 = k)) = ks.any fun p => decide (p.1 = k)
  | _, _, .nil => rfl
  | (a, v) :: kv, (b, d) :: ks, .cons ⟨h1, h2⟩ t => by
    have h1' : a = b := h1
    subst h1'
    simp only [List.any_cons, any_fa2 (k := k) t]
theorem map_fa2 {κ : Type} [DecidableEq κ] {K : PySem.W.Frag} {F : Hp} {k : κ} {v : V} {d : D} (q : DV K F v d) : ∀ {kv : List (κ × V)} {ks : List (κ × D)}, Fa2 (KR K F) kv ks → Fa2 (KR K F) (kv.map fun p => if p.1 = k then (p.1, v) else p) (ks.map fun p => if p.1 = k then (p.1, d) else p)
  | _, _, .nil => .nil
  | (a, v0) :: kv, (b, d0) :: ks, .cons ⟨h1, h2⟩ t => by
    have h1' : a = b := h1
    subst h1'
    refine .cons ?_ (map_fa2 q t)
    dsimp only
    by_cases e : a = k
    · rw [if_pos e, if_pos e]; exact ⟨rfl, q⟩
    · rw [if_neg e, if_neg e]; exact ⟨rfl, h2⟩
theorem pu_fa2 {κ : Type} [DecidableEq κ] {K : PySem.W.Frag} {F : Hp} {k : κ} {v : V} {d : D} (q : DV K F v d) {kv : List (κ × V)} {ks : List (κ × D)} (h : Fa2 (KR K F) kv ks) : Fa2 (KR K F) (putK kv k v) (puD ks k d) := by
  unfold putK puD
  rw [any_fa2 h]
  by_cases e : (ks.any fun p => decide (p.1 = k)) = true
  · rw [if_pos e, if_pos e]; exact map_fa2 q h
  · rw [if_neg e, if_neg e]; exact h.append (.cons ⟨rfl, q⟩ .nil)
theorem dv_key {K : PySem.W.Frag} {F : Hp} {v : V} {k : Key} (h : DV K F v (keyD k)) : v = kV k := by
  cases k with
  | inl i => exact dv_int' h
  | inr x => exact dv_str' h
/-- d[k] -/
def DgD (M : MS) (x y z : D) : Prop := ∃ a kvs k, x = .r a ∧ M.m a = some (.dct kvs) ∧ y = keyD k ∧ vaD kvs k = some z
theorem we_dget {o i : Expr} {pos : Pos} (hc : C.calm = true) (hs : NoSl i) (h : WE C o ρ M fun x M1 => WE C i ρ M1 fun y M2 => ∃ z, DgD M2 x y z ∧ Q z M2) : WE C (.Subscript o i pos) ρ M Q := .mk fun X F σ H at0 => by
  refine PE.se (pe_dget (by have := hu64 at0.ok hc; omega) pe_s pe_s hs) ?_
  refine h.go at0 fun v x M1 F1 H1 s1 a1 q1 h1 => h1.go a1 fun w y M2 F2 H2 s2 a2 q2 ⟨z, ⟨a, kvs, k, ex, hm, ey, hv⟩, q⟩ => ?_
  subst ex ey
  cases (show v = .ref a from q1)
  cases dv_key q2
  obtain ⟨u, h3, h4⟩ := a2.rel.read hm
  cases u with
  | dK kv =>
    have hz := va_fa2 (k := k) (show Fa2 (KR _ _) kv kvs from h4)
    rw [hv] at hz
    obtain ⟨u, e, hu⟩ := hz
    exact ⟨a, u, rfl, .inl ⟨kv, k, .inl h3, rfl, e.symm⟩, z, M2, F2, s1.trans s2, a2.rel, hu, q⟩
  | _ => exact h4.elim
theorem sd_dct {a : Addr} {kvs : List (Key × D)} {k : Key} {v : D} {R : MS → Prop} (hc : C.calm = true) (hx : M.m a = some (.dct kvs)) (hl : kvs.length < sizeLine) (k2 : R (M.put a (.dct (puD kvs k v)))) : StD C (.r a) (keyD k) v M R := .mk fun X F H vo vi vv ok Rl q1 q2 q3 => by
  cases (show vo = .ref a from q1)
  cases dv_key q2
  obtain ⟨u, h3, h4⟩ := Rl.read hx
  cases u with
  | dK kv =>
    intro pins s σ ov iv u2 I r1 r2 r3
    cases (show ov = Value.ref a from r1)
    refine d_setItem (by have := hu64 ok hc; omega) I (DPut.k (v := vv) h3 (by rw [show kv.length = kvs.length from Fa2.length h4]; exact hl)) r2 r3 fun s2 I2 => ⟨_, I2, _, F, Fs.refl F, Rl.write (o' := .dct (puD kvs k v)) hx (pu_fa2 q3 h4), k2⟩
  | _ => exact h4.elim
/-- the keys of a display are texts -/
inductive KeysT : List (Option Expr) → List Expr → List (Str × Expr) → Prop
  | nil : KeysT [] [] []
  | cons {x : Str} {j : Nat} {p : Pos} {v : Expr} {ks : List (Option Expr)} {vs : List Expr} {its : List (Str × Expr)} : KeysT ks vs its → KeysT (some (.Constant (.str x) j p) :: ks) (v :: vs) ((x, v) :: its)
def WPs (C : Ct) : List (Str × Expr) → Rho → MS → (List (Str × D) → MS → Prop) → Prop
  | [], _, M, Q => Q [] M
  | (x, e) :: r, ρ, M, Q => WE C e ρ M fun d M1 => WPs C r ρ M1 fun kvs M2 => Q ((x, d) :: kvs) M2
def trsOf (X : Cx) : List (Str × Expr) → List (TE × TE)
  | [] => []
  | (x, e) :: r => (fun _ H Q => Q (.str x) H, tse X e) :: trsOf X r
theorem keys_pps {X : Cx} {pos : Pos} {ks : List (Option Expr)} {vs : List Expr} {its : List (Str × Expr)} (h : KeysT ks vs its) : PPs X pos ks vs (trsOf X its) := by
  induction h with
  | nil => exact pps_nil
  | cons _ ih => exact pps_cons ⟨fun pins s σ H Q I q => pe_str.run pins s σ H Q I q⟩ pe_s ih
theorem keys_len {ks : List (Option Expr)} {vs : List Expr} {its : List (Str × Expr)} (h : KeysT ks vs its) : ks.length = vs.length ∧ ks.length = its.length ∧ ks.all (·.isSome) = true := by
  induction h with
  | nil => exact ⟨rfl, rfl, rfl⟩
  | cons _ ih => exact ⟨by simp [ih.1], by simp [ih.2.1], by simpa using ih.2.2⟩
theorem fst_fa2 {κ α β : Type} {R : α → β → Prop} : ∀ {kv : List (κ × α)} {ks : List (κ × β)}, Fa2 (fun p q => p.1 = q.1 ∧ R p.2 q.2) kv ks → kv.map (·.1) = ks.map (·.1)
  | _, _, .nil => rfl
  | _, _, .cons h t => by rw [List.map_cons, List.map_cons, fst_fa2 t, h.1]
theorem pairs_ok {X : Cx} {σ : L2.St} : ∀ {its : List (Str × Expr)} {M : MS} {F H : Hp} {R : List (V × V) → Hp → Prop} {Q : List (Str × D) → MS → Prop}, At C ρ M X F σ H → WPs C its ρ M Q →
    (∀ kv kvs M' F' H', Fs F F' → At C ρ M' X F' σ H' → Fa2 (fun (p : Str × V) (q : Str × D) => p.1 = q.1 ∧ DV X.K F' p.2 q.2) kv kvs → kvs.map (·.1) = its.map (·.1) → Q kvs M' → R (kv.map fun p => (V.str p.1, p.2)) H') → tPairs (trsOf X its) σ H R
  | [], M, F, H, R, Q, a, h, k => k [] [] M F H (Fs.refl F) a .nil rfl h
  | (x, e) :: its, M, F, H, R, Q, a, h, k => by
    show tse X e σ H _
    refine (show WE C e ρ M _ from h).go a fun v d M1 F1 H1 s1 a1 q1 h1 => ?_
    refine pairs_ok a1 h1 fun kv kvs M2 F2 H2 s2 a2 r2 hk hq => ?_
    exact k ((x, v) :: kv) ((x, d) :: kvs) M2 F2 H2 (s1.trans s2) a2 (.cons ⟨rfl, q1.mono s2⟩ r2) (by simp [hk]) hq
theorem merge_nodup : ∀ (l acc : List (Key × V)), ((acc ++ l).map (·.1)).Nodup → mergeK acc l = acc ++ l
  | [], acc, _ => by simp [mergeK]
  | p :: l, acc, h => by
    have hp : (acc.any fun kv => decide (kv.1 = p.1)) = false := by
      rw [List.any_eq_false]
      intro q hq e
      rw [List.map_append, List.map_cons] at h
      have := List.nodup_append.mp h
      exact this.2.2 _ (List.mem_map_of_mem hq) _ List.mem_cons_self (of_decide_eq_true e)
    have e : putK acc p.1 p.2 = acc ++ [p] := by unfold putK; rw [hp]; rfl
    show mergeK (putK acc p.1 p.2) l = _
    rw [e, merge_nodup l (acc ++ [p]) (by simpa using h)]
    simp
theorem we_dict {ks : List (Option Expr)} {vs : List Expr} {its : List (Str × Expr)} {pos : Pos} (hk : KeysT ks vs its) (h0 : its ≠ []) (h15 : its.length ≤ 15) (nd : (its.map (·.1)).Nodup)
    (h : ∀ p, M.m p = none → WPs C its ρ (M.put p (.dct [])) fun kvs M2 => M2.m p = some (.dct []) ∧ Q (.r p) (M2.put p (.dct (kvs.map fun q => (Sum.inr q.1, q.2))))) : WE C (.Dict ks vs pos) ρ M Q := .mk fun X F σ H at0 => by
  obtain ⟨l1, l2, l3⟩ := keys_len hk
  refine PE.se (pe_disp (keys_pps hk) l3 l1 (fun e => h0 (by rw [e] at l2; exact List.length_eq_zero_iff.mp l2.symm)) (by omega)) ?_
  intro p hp
  have R1 := at0.rel.new (o := .dct []) (u := .dK []) hp (show Fa2 _ [] [] from .nil)
  refine pairs_ok (at0.to (Fs.refl F) R1) (h p (at0.rel.free hp).2) fun kv kvs M' F' H' s a' r hks ⟨hm, hq⟩ => ?_
  obtain ⟨u, h3, h4⟩ := a'.rel.read hm
  cases u with
  | dK kv0 =>
    cases (show Fa2 _ kv0 [] from h4)
    refine ⟨h3, kv.map fun p => (Sum.inr p.1, p.2), by rw [List.map_map]; rfl, ?_, ?_⟩
    · rw [List.length_map, r.length, ← List.length_map (f := (·.1)), hks, List.length_map]; exact h15
    · have e1 : kv.map (·.1) = kvs.map (·.1) := by
        exact fst_fa2 r
      rw [merge_nodup _ _ (by
        rw [List.nil_append, List.map_map]
        have e2 : (kv.map ((fun (q : Key × V) => q.1) ∘ fun p => (Sum.inr p.1, p.2))) = ((its.map (·.1)).map (Sum.inr : Str → Key)) := by rw [← hks, ← e1, List.map_map]; rfl
        rw [e2]
        exact List.Pairwise.map _ (fun a b z e => z (Sum.inr.inj e)) nd), List.nil_append]
      exact ⟨.r p, _, F', s, a'.rel.write (o' := .dct (kvs.map fun q => (Sum.inr q.1, q.2))) hm (show Fa2 _ _ _ from r.map fun _ _ z => ⟨by rw [z.1], z.2⟩), rfl, hq⟩
  | _ => exact h4.elim
/-! any, all -/
theorem bools_of {K : PySem.W.Frag} {F : Hp} : ∀ {bs : List Bool} {vs : List V}, DVs K F vs (bs.map fun b => D.d (.bool b)) → vs = bs.map V.bl
  | [], _, .nil => rfl
  | b :: bs, _, .cons q t => by rw [dv_bool q, bools_of t]; rfl
theorem ca_any {x : D} {bs : List Bool} (hc : C.calm = true) (hx : LView M x (bs.map fun b => D.d (.bool b))) (k : Q (.d (.bool (bs.any id))) M) : CaD C (.builtin "any") [x] M Q := .of (fun X F ok => cr_any (ok.calm.trans hc)) fun X F H vs ok R q => by
  obtain ⟨v, rfl, hv⟩ := dvs_one q
  obtain ⟨a, ws, rfl, h1, h2⟩ := LView.ok R hv hx
  cases bools_of h2
  exact ⟨a, bs, rfl, h1, _, M, F, Fs.refl F, R, dv_bl, k⟩
theorem ca_all {x : D} {bs : List Bool} (hc : C.calm = true) (hx : LView M x (bs.map fun b => D.d (.bool b))) (k : Q (.d (.bool (bs.all id))) M) : CaD C (.builtin "all") [x] M Q := .of (fun X F ok => cr_all (ok.calm.trans hc)) fun X F H vs ok R q => by
  obtain ⟨v, rfl, hv⟩ := dvs_one q
  obtain ⟨a, ws, rfl, h1, h2⟩ := LView.ok R hv hx
  cases bools_of h2
  exact ⟨a, bs, rfl, h1, _, M, F, Fs.refl F, R, dv_bl, k⟩
/-- a text repeated -/
theorem foldl_rep (c : Array Nat) : ∀ (n : Nat) (a : Array Nat), ((List.replicate n c).foldl (· ++ ·) a).toList = a.toList ++ (List.replicate n c.toList).flatten
  | 0, a => by simp
  | n + 1, a => by
    rw [List.replicate_succ, List.foldl_cons, foldl_rep c n (a ++ c), List.replicate_succ, List.flatten_cons, Array.toList_append, List.append_assoc]
def repS (x : Str) (n : Nat) : Str := ⟨(List.replicate n x.cps.toList).flatten.toArray⟩
theorem od_mulS {x : Str} {n : Int} (h1 : 1 < n) (h2 : n < 2 ^ 31) (h3 : 0 < x.length) (h4 : x.length * n.toNat ≤ sizeLine) (k : Q (.d (.str (repS x n.toNat))) M) : OpD C (binaryOp .Mult) (.d (.str x)) (.d (.int n)) M Q := .mk fun X F H v w ok R q1 q2 pins s σ u1 u2 I r1 r2 => by
  cases dv_str' q1
  cases dv_int' q2
  obtain ⟨t, rfl⟩ := (show ∃ t, u1 = Value.str x t from r1)
  obtain ⟨t', rfl⟩ := (show ∃ t, u2 = Value.int n t from r2)
  have hsz : sizeLine = 16777216 := sizeLine_eq
  refine PySem.P.mul_str ?_ (fun _ _ => ?_) (fun _ _ => ?_) ?_
  · have e1 : ¬ n < -(2 ^ 63 : Int) := by omega
    have e2 : ¬ n ≥ 2 ^ 63 := by omega
    rw [decide_eq_false e1, decide_eq_false e2]; rfl
  · have hx : (x.length : Int) ≤ 16777216 := by
      have : x.length ≤ x.length * n.toNat := Nat.le_mul_of_pos_right _ (by omega)
      omega
    have h5 : (16777216 : Int) ≤ (2 ^ 63 - 1) / n := by
      rw [Int.le_ediv_iff_mul_le (by omega)]
      have : (16777216 : Int) * n ≤ 16777216 * 2 ^ 31 := by omega
      omega
    omega
  · show decide (x.length * n.toNat > sizeLine) = false; exact decide_eq_false (by omega)
  · rw [if_neg (by omega)]
    have e1 : (n == 1) = false := by simp; omega
    have e2 : (x.length == 0) = false := by simp; omega
    rw [e1, e2, if_neg (by simp)]
    have e3 : (⟨(List.replicate n.toNat x.cps).foldl (· ++ ·) #[]⟩ : Str) = repS x n.toNat := by
      unfold repS
      congr 1
      apply Array.ext'
      rw [foldl_rep]
      simp
    rw [e3]
    have e4 : (repS x n.toNat).length = x.length * n.toNat := by
      show ((List.replicate n.toNat x.cps.toList).flatten.toArray).size = x.cps.size * n.toNat
      simp [Nat.mul_comm]
    exact ⟨by rw [e4]; exact h4, ⟨.str (repS x n.toNat), H, I.tok _, ⟨_, rfl⟩, _, M, F, Fs.refl F, R, dv_str, k⟩⟩
/-- list(s) -/
theorem signs_vals {x : Str} : ∀ {us : List Value} (cs : List Nat), us.length = cs.length → (∀ (j : Nat) (v : Value), us[j]? = some v → ∃ c u, cs[j]? = some c ∧ v = .str ⟨#[c]⟩ u) → Vals (cs.map fun c => V.str ⟨#[c]⟩) us
  | [], [], _, _ => .nil
  | u :: us, c :: cs, hl, h => by
    refine .cons ?_ (signs_vals (x := x) cs (by simpa using hl) fun j v e => h (j + 1) v e)
    obtain ⟨c', u', e1, e2⟩ := h 0 u rfl
    cases (show c = c' from Option.some.inj e1)
    exact ⟨u', e2⟩
theorem dvs_signs {K : PySem.W.Frag} {F : Hp} : ∀ cs : List Nat, DVs K F (cs.map fun c => V.str ⟨#[c]⟩) (cs.map fun c => D.d (.str ⟨#[c]⟩))
  | [] => .nil
  | _ :: cs => .cons dv_str (dvs_signs cs)
theorem ca_listS {x : Str} (hc : C.calm = true) (hz : x.length ≤ sizeLine) (k : NewL Q M (x.cps.toList.map fun c => D.d (.str ⟨#[c]⟩))) : CaD C (.type "list") [.d (.str x)] M Q := .mk fun X F H vs ok R q pins s σ us I r => by
  obtain ⟨v, rfl, hv⟩ := dvs_one q
  cases dv_str' hv
  obtain ⟨u, rfl, ru⟩ := vals1 r
  obtain ⟨t, rfl⟩ := (show ∃ t, u = Value.str x t from ru)
  refine call_list_str (I.ok.hd (ok.calm.trans hc)) x t (hn := hz) fun h' tk acc c' hk hS hacc => ?_
  have hv : Vals (x.cps.toList.map fun c => V.str ⟨#[c]⟩) acc.toList := signs_vals (x := x) _ (by rw [Array.length_toList, Array.length_toList]; exact hacc.1) fun j v e => by
    obtain ⟨c, u, h1, h2⟩ := hacc.2 j v (by rw [← Array.getElem?_toList]; exact e)
    exact ⟨c, u, by rw [Array.getElem?_toList]; exact h1, h2⟩
  have hf := I.hok.fresh (Nat.le_refl s.heap.objs.size)
  refine ⟨.ref s.heap.objs.size, upd H s.heap.objs.size (.lst (x.cps.toList.map fun c => V.str ⟨#[c]⟩)), I.laid (t' := tk) hk (Nat.le_refl _)
    (show ObjOk X.prog X.w _ _ _ (.lst (x.cps.toList.map fun c => V.str ⟨#[c]⟩)) from ⟨by rw [List.length_map, Array.length_toList]; exact hz, acc.toList, c', hv, by rw [Array.toArray_toList]; exact hS⟩), rfl, ?_⟩
  exact k.up (Fs.refl F) R (dvs_signs _) _ hf
end
end Y

/-! Layer Y, part H: helpers of the walks: texts as lists of signs, branches, indices. -/
namespace Y
open PySem PySem.Spec PyProof.Rows L2
@[irreducible] def S (l : List Nat) : Str := ⟨l.toArray⟩
theorem S_self (s : Str) : S s.cps.toList = s := by unfold S; cases s; rfl
theorem S_cps (l : List Nat) : (S l).cps.toList = l := by simp [S]
theorem S_len (l : List Nat) : (S l).length = l.length := by unfold S; show l.toArray.size = _; simp
theorem S_inj {a b : List Nat} : S a = S b ↔ a = b := ⟨fun h => by have := congrArg (fun s : Str => s.cps.toList) h; simpa [S_cps] using this, fun h => by rw [h]⟩
theorem S_app (a b : List Nat) : S a ++ S b = S (a ++ b) := by
  unfold S
  show (⟨a.toArray ++ b.toArray⟩ : Str) = _
  simp
theorem S_one (c : Nat) : (⟨#[c]⟩ : Str) = S [c] := by unfold S; rfl
theorem br {p : Prop} [Decidable p] {A B : Prop} (h1 : p → A) (h2 : ¬p → B) : if decide p = true then A else B := by
  by_cases h : p
  · rw [if_pos (decide_eq_true h)]; exact h1 h
  · rw [if_neg (by simpa using h)]; exact h2 h
theorem brN {p : Prop} [Decidable p] {A B : Prop} (h1 : ¬p → A) (h2 : p → B) : if (!decide p) = true then A else B := by
  by_cases h : p
  · rw [if_neg (by simpa using h)]; exact h2 h
  · rw [if_pos (by simpa using h)]; exact h1 h
theorem brB {b : Bool} {A B : Prop} (h1 : b = true → A) (h2 : b = false → B) : if b = true then A else B := by
  cases b
  · rw [if_neg (by decide)]; exact h2 rfl
  · rw [if_pos rfl]; exact h1 rfl
theorem brT {b : Bool} {A B : Prop} (e : b = true) (h : A) : if b = true then A else B := by rw [if_pos e]; exact h
theorem brF {b : Bool} {A B : Prop} (e : b = false) (h : B) : if b = true then A else B := by rw [if_neg (by rw [e]; decide)]; exact h
theorem exB {b : Bool} {P : Bool → Prop} (h : P b) : ∃ k, D.d (.bool b) = D.d (.bool k) ∧ P k := ⟨b, rfl, h⟩
theorem exI {b : Int} {P : Int → Prop} (h : P b) : ∃ k, D.d (.int b) = D.d (.int k) ∧ P k := ⟨b, rfl, h⟩
section
variable {C : Ct} {ρ : Rho} {M : MS}
theorem ix_str {l : List Nat} {i : Int} {c : Nat} {R : D → Prop} (hz : l.length ≤ sizeLine) (h : atI l i = some c) (k : R (.d (.str (S [c])))) : ∃ z, IxD M (.d (.str (S l))) (.d (.int i)) z ∧ R z :=
  ⟨_, ⟨by rw [S_len]; exact hz, c, by rw [S_cps]; exact h, by rw [S_one]⟩, k⟩
theorem ix_tup {l : List PyData} {i : Int} {c : PyData} {R : D → Prop} (h : atI l i = some c) (k : R (.d c)) : ∃ z, IxD M (.d (.tuple l)) (.d (.int i)) z ∧ R z := ⟨_, ⟨c, h, rfl⟩, k⟩
theorem ix_lst {l : List PyData} {i : Int} {c : PyData} {R : D → Prop} (h : atI l i = some c) (k : R (.d c)) : ∃ z, IxD M (.d (.list l)) (.d (.int i)) z ∧ R z := ⟨_, ⟨c, h, rfl⟩, k⟩
theorem ix_ref {a : Addr} {xs : List D} {i : Int} {c : D} {R : D → Prop} (hm : M.m a = some (.lst xs)) (h : atI xs i = some c) (k : R c) : ∃ z, IxD M (.r a) (.d (.int i)) z ∧ R z := ⟨_, ⟨xs, hm, h⟩, k⟩
theorem atI_nat {α : Type} {l : List α} {i : Int} {n : Nat} {x : α} (h : i = (n : Int)) (e : l[n]? = some x) : atI l i = some x := by
  subst h
  have hn : n < l.length := (List.getElem?_eq_some_iff.mp e).1
  unfold atI ixN
  rw [if_pos (by omega), if_pos (by omega)]
  simpa using e
theorem oc_eqSL {a b : List Nat} {Q : D → MS → Prop} (k : Q (.d (.bool (decide (a = b)))) M) : OpD C (compareOp .Eq) (.d (.str (S a))) (.d (.str (S b))) M Q := oc_eqS (by rw [show decide (S a = S b) = decide (a = b) from decide_eq_decide.mpr S_inj]; exact k)
theorem oc_neSL {a b : List Nat} {Q : D → MS → Prop} (k : Q (.d (.bool (!decide (a = b)))) M) : OpD C (compareOp .NotEq) (.d (.str (S a))) (.d (.str (S b))) M Q := oc_neS (by rw [show decide (S a = S b) = decide (a = b) from decide_eq_decide.mpr S_inj]; exact k)
theorem od_addSL {a b : List Nat} {Q : D → MS → Prop} (h : a.length + b.length ≤ sizeLine) (k : Q (.d (.str (S (a ++ b)))) M) : OpD C (binaryOp .Add) (.d (.str (S a))) (.d (.str (S b))) M Q := od_addS (by rw [S_len, S_len]; exact h) (by rw [S_app]; exact k)
theorem cutS_S {l : List Nat} {lo hi : Option Int} : cutS (S l) lo hi = S (cutL l lo hi) := by
  unfold cutS cutL S
  simp only [Str.length]
  simp
theorem cutL_from {α : Type} (l : List α) (k : Nat) : cutL l (some (k : Int)) none = l.drop k := by
  unfold cutL
  rw [HT.sIx_nat, HT.sIx_none]
  rcases Nat.le_total k l.length with h | h
  · rw [Nat.min_eq_left h, List.take_of_length_le (by rw [List.length_drop]; omega)]
  · rw [Nat.min_eq_right h, List.drop_length, List.drop_eq_nil_of_le h, List.take_nil]
theorem cutL_to {α : Type} (l : List α) (k : Nat) : cutL l none (some (k : Int)) = l.take k := by
  unfold cutL
  rw [HT.sIx_nat, HT.sIx_none, List.drop_zero, Nat.sub_zero]
  rcases Nat.le_total k l.length with h | h
  · rw [Nat.min_eq_left h]
  · rw [Nat.min_eq_right h, List.take_length, List.take_of_length_le h]
theorem cutL_last {α : Type} (l : List α) : cutL l none (some (-1)) = l.dropLast := by
  unfold cutL
  rw [HT.sIx_none, List.drop_zero, Nat.sub_zero]
  show l.take ((-1 : Int) + (l.length : Int)).toNat = _
  rw [List.dropLast_eq_take]
  congr 1
  omega
theorem cutL_len {α : Type} (l : List α) (lo hi : Option Int) : (cutL l lo hi).length ≤ l.length := by
  unfold cutL
  rw [List.length_take, List.length_drop]
  omega
theorem sl_str {l : List Nat} {lo hi : Option Int} {Q : D → MS → Prop} (hz : l.length ≤ sizeLine) (k : Q (.d (.str (S (cutL l lo hi)))) M) : SlD C (.d (.str (S l))) lo hi M Q := ⟨by rw [S_len]; exact hz, by rw [cutS_S]; exact k⟩
theorem oc_inCL {c : Nat} {z : Str} {Q : D → MS → Prop} (k : Q (.d (.bool (decide (c ∈ z.cps.toList)))) M) : OpD C (compareOp .In) (.d (.str (S [c]))) (.d (.str z)) M Q := by rw [← S_one]; exact oc_inC k
theorem oc_niCL {c : Nat} {z : Str} {Q : D → MS → Prop} (k : Q (.d (.bool (!decide (c ∈ z.cps.toList)))) M) : OpD C (compareOp .NotIn) (.d (.str (S [c]))) (.d (.str z)) M Q := by rw [← S_one]; exact oc_niC k
theorem we_isiT {x : Str} {T : String} {e : Expr} {p q pos : Pos} {Q : D → MS → Prop} (hm : C.g.mg "isinstance" = none) (hx : C.g.mg x = none) (hb : bootBuiltins x = some (.type T)) (hg : glB C.sc "isinstance" = true) (hgx : glB C.sc x = true)
    (he : ∀ env, starEach [e, .Name x q] env = (false, eval e env) :: starEach [.Name x q] env) (h : WE C e ρ M fun d M1 => IsiD C M1 d (.type T) fun b => Q (.d (.bool b)) M1) : WE C (.Call (.Name "isinstance" p) [e, .Name x q] [] pos) ρ M Q :=
  we_isi hm hg ⟨hgx, .inr ⟨hx, hb⟩⟩ (.ty T) he h
theorem we_isiC {x : Str} {a : Addr} {e : Expr} {p q pos : Pos} {Q : D → MS → Prop} (hm : C.g.mg "isinstance" = none) (hx : C.g.mg x = some (.ref a)) (hg : glB C.sc "isinstance" = true) (hgx : glB C.sc x = true)
    (he : ∀ env, starEach [e, .Name x q] env = (false, eval e env) :: starEach [.Name x q] env) (h : WE C e ρ M fun d M1 => IsiD C M1 d (.ref a) fun b => Q (.d (.bool b)) M1) : WE C (.Call (.Name "isinstance" p) [e, .Name x q] [] pos) ρ M Q :=
  we_isi hm hg ⟨hgx, .inl hx⟩ (.own a) he h
theorem ca_lenS {l : List Nat} {Q : D → MS → Prop} (hz : l.length ≤ sizeLine) (k : Q (.d (.int (l.length : Int))) M) : CaD C (.builtin "len") [.d (.str (S l))] M Q := ca_len (n := l.length) ⟨by rw [S_len]; exact hz, (S_len l).symm⟩ k
theorem ca_lenT {l : List PyData} {Q : D → MS → Prop} (k : Q (.d (.int (l.length : Int))) M) : CaD C (.builtin "len") [.d (.tuple l)] M Q := ca_len (n := l.length) rfl k
theorem ca_lenL {l : List PyData} {Q : D → MS → Prop} (k : Q (.d (.int (l.length : Int))) M) : CaD C (.builtin "len") [.d (.list l)] M Q := ca_len (n := l.length) rfl k
theorem ca_lenR {a : Addr} {xs : List D} {Q : D → MS → Prop} (hm : M.m a = some (.lst xs)) (k : Q (.d (.int (xs.length : Int))) M) : CaD C (.builtin "len") [.r a] M Q := ca_len (n := xs.length) ⟨xs, hm, rfl⟩ k
theorem WT.imp {e : Expr} {Q Q' : Bool → MS → Prop} (h : WT C e ρ M Q) (k : ∀ d M', Q d M' → Q' d M') : WT C e ρ M Q' := .mk fun X F σ H a => h.go a fun b M' F' H' s a' z => ⟨M', F', s, a'.rel, k _ _ z⟩
theorem WTs.imp {ifs : List Expr} {Q Q' : Bool → MS → Prop} (h : WTs C ifs ρ M Q) (k : ∀ d M', Q d M' → Q' d M') : WTs C ifs ρ M Q' := by
  match ifs, h with
  | [], h => exact k _ _ h
  | [c], h => exact WT.imp h k
  | _ :: _ :: _, h => exact h.elim
/-- a comprehension that changes nothing: filter and map -/
theorem lc_flt {α : Type} {B : Ct} {ρw : Rho} {ifs : List Expr} {elt : Expr} {xs : List Str} {stay : MS → Prop} {Q : D → MS → Prop} {l : List α} {enc : α → D} (p : α → Bool) (f : α → D) (hl : l.length ≤ sizeLine) (hst : ∀ M', M.le M' → stay M')
    (step : ∀ c M', c ∈ l → M.le M' → ∃ ρ', TgV xs (enc c) ρw ρ' ∧ WTs B ifs ρ' M' fun b M3 => M3 = M' ∧ p c = b ∧ (b = true → WE B elt ρ' M' fun y M4 => M4 = M' ∧ y = f c)) (fin : NewL Q M ((l.filter p).map f)) :
    ∃ J : Nat → List D → Prop, J 0 [] ∧ (∀ M', M.le M' → stay M') ∧
      (∀ i d acc M', (l.map enc)[i]? = some d → J i acc → M.le M' → ∃ ρ', TgV xs d ρw ρ' ∧ WTs B ifs ρ' M' fun b M3 => M3 = M' ∧ if b = true then WE B elt ρ' M' fun y M4 => M4 = M' ∧ acc.length < sizeLine ∧ J (i + 1) (acc ++ [y]) else J (i + 1) acc) ∧
      (∀ acc, J (l.map enc).length acc → NewL Q M acc) := by
  refine ⟨fun i acc => acc = ((l.take i).filter p).map f, by simp, hst, fun i d acc M' e hJ hle => ?_, fun acc h => ?_⟩
  · rw [List.getElem?_map] at e
    obtain ⟨c, e0, rfl⟩ := Option.map_eq_some_iff.mp e
    obtain ⟨ρ', tv, w⟩ := step c M' (List.mem_of_getElem? e0) hle
    refine ⟨ρ', tv, w.imp fun b M3 ⟨e3, ep, hw⟩ => ⟨e3, ?_⟩⟩
    have hi : i < l.length := (List.getElem?_eq_some_iff.mp e0).1
    have et : l.take (i + 1) = l.take i ++ [c] := by rw [List.take_succ, e0]; rfl
    have hJ' : acc = ((l.take i).filter p).map f := hJ
    have hlen : acc.length < sizeLine := by
      rw [hJ', List.length_map]
      have h1 := List.length_filter_le p (l.take i)
      rw [List.length_take] at h1
      omega
    cases b with
    | true =>
      rw [if_pos rfl]
      refine (hw rfl).imp fun y M4 ⟨e4, ey⟩ => ⟨e4, hlen, ?_⟩
      show acc ++ [y] = ((l.take (i + 1)).filter p).map f
      rw [et, List.filter_append, List.map_append, hJ', ey]
      simp [ep]
    | false =>
      rw [if_neg (by decide)]
      show acc = ((l.take (i + 1)).filter p).map f
      rw [et, List.filter_append, List.map_append, hJ']
      simp [ep]
  · have h' : acc = ((l.take (l.map enc).length).filter p).map f := h
    rw [List.length_map, List.take_length] at h'
    rw [h']
    exact fin
theorem lc_map {α : Type} {B : Ct} {ρw : Rho} {elt : Expr} {xs : List Str} {stay : MS → Prop} {Q : D → MS → Prop} {l : List α} {enc : α → D} (f : α → D) (hl : l.length ≤ sizeLine) (hst : ∀ M', M.le M' → stay M')
    (step : ∀ c M', c ∈ l → M.le M' → ∃ ρ', TgV xs (enc c) ρw ρ' ∧ WE B elt ρ' M' fun y M4 => M4 = M' ∧ y = f c) (fin : NewL Q M (l.map f)) :
    ∃ J : Nat → List D → Prop, J 0 [] ∧ (∀ M', M.le M' → stay M') ∧
      (∀ i d acc M', (l.map enc)[i]? = some d → J i acc → M.le M' → ∃ ρ', TgV xs d ρw ρ' ∧ WTs B [] ρ' M' fun b M3 => M3 = M' ∧ if b = true then WE B elt ρ' M' fun y M4 => M4 = M' ∧ acc.length < sizeLine ∧ J (i + 1) (acc ++ [y]) else J (i + 1) acc) ∧
      (∀ acc, J (l.map enc).length acc → NewL Q M acc) :=
  lc_flt (fun _ => true) f hl hst (fun c M' hc hle => let ⟨ρ', h1, h2⟩ := step c M' hc hle; ⟨ρ', h1, show (_ ∧ _ ∧ _) from ⟨rfl, rfl, fun _ => h2⟩⟩) (by rw [List.filter_eq_self.mpr (by simp)]; exact fin)
def inStr (x : Str) (ys : List Str) : Bool := inV (V.str x) (ys.map V.str)
theorem strs_vals {K : PySem.W.Frag} {F : Hp} : ∀ {ys : List Str} {vs : List V}, DVs K F vs ((ys.map PyData.str).map D.d) → vs = ys.map V.str
  | [], _, .nil => rfl
  | y :: ys, _, .cons q t => by rw [dv_str' q, strs_vals t]; rfl
theorem flat_strs : ∀ ys : List Str, (ys.map V.str).all flatV = true
  | [] => rfl
  | y :: ys => by rw [List.map_cons, List.all_cons, flat_strs ys]; rfl
theorem seqD_vals {K : PySem.W.Frag} {F H : Hp} {w : V} {y : D} {ds : List PyData} (R : Rel K M F H) (q : DV K F w y) (h : SeqD M y ds) : ∃ p vs, w = .ref p ∧ (SqL K H p vs ∨ SqT K H p vs) ∧ DVs K F vs (ds.map D.d) := by
  rcases h with rfl | rfl | ⟨a, rfl, hm⟩
  · obtain ⟨p, vs, rfl, h1, h2⟩ := dv_tup q
    exact ⟨p, vs, rfl, .inr (SqT.mono R.sub h1), DVs.of_all h2⟩
  · obtain ⟨p, vs, rfl, h1, h2⟩ := dv_lst q
    exact ⟨p, vs, rfl, .inl (SqL.mono R.sub h1), DVs.of_all h2⟩
  · cases (show w = .ref a from q)
    obtain ⟨u, h3, h4⟩ := R.read hm
    cases u with
    | lst vs => exact ⟨a, vs, rfl, .inl (SqL.of h3), h4⟩
    | _ => exact h4.elim
theorem oc_inSt {x : Str} {y : D} {ys : List Str} {Q : D → MS → Prop} (hy : SeqD M y (ys.map PyData.str)) (k : Q (.d (.bool (inStr x ys))) M) : OpD C (compareOp .In) (.d (.str x)) y M Q := .of (fun X F _ => op_in_seq) fun X F H v w ok R q1 q2 => by
  cases dv_str' q1
  obtain ⟨p, vs, rfl, h1, h2⟩ := seqD_vals R q2 hy
  cases strs_vals h2
  exact ⟨p, _, rfl, h1, rfl, flat_strs ys, _, M, F, Fs.refl F, R, dv_bl, k⟩
theorem oc_niSt {x : Str} {y : D} {ys : List Str} {Q : D → MS → Prop} (hy : SeqD M y (ys.map PyData.str)) (k : Q (.d (.bool (!inStr x ys))) M) : OpD C (compareOp .NotIn) (.d (.str x)) y M Q := .of (fun X F _ => op_notIn_seq) fun X F H v w ok R q1 q2 => by
  cases dv_str' q1
  obtain ⟨p, vs, rfl, h1, h2⟩ := seqD_vals R q2 hy
  cases strs_vals h2
  exact ⟨p, _, rfl, h1, rfl, flat_strs ys, _, M, F, Fs.refl F, R, dv_bl, k⟩
/-- d["x"] -/
theorem we_dgetS {o : Expr} {x : Str} {j : Nat} {p pos : Pos} {Q : D → MS → Prop} (hc : C.calm = true) (hs : NoSl (.Constant (.str x) j p)) (h : WE C o ρ M fun y M1 => ∃ a kvs z, y = .r a ∧ M1.m a = some (.dct kvs) ∧ vaD kvs (Sum.inr x : Key) = some z ∧ Q z M1) : WE C (.Subscript o (.Constant (.str x) j p) pos) ρ M Q :=
  we_dget hc hs (h.imp fun y M1 ⟨a, kvs, z, e, h1, h2, q⟩ => we_str ⟨z, ⟨a, kvs, Sum.inr x, e, h1, rfl, h2⟩, q⟩)
/-- d["x"] = v -/
theorem wg_dctS {o : Expr} {x : Str} {j : Nat} {p pos : Pos} {d : D} {Q : Rho → MS → Prop} (hc : C.calm = true)
    (ha : ∀ env v, assign (.Subscript o (.Constant (.str x) j p) pos) env v = (do
      let ov ← holding [v] (eval o env)
      let iv ← holding [v, ov] (eval (.Constant (.str x) j p) env)
      standAt pos
      holding [v, ov, iv] (setItem ov iv v)
      release [v, ov, iv] []))
    (h : WE C o ρ M fun y M1 => ∃ a kvs, y = .r a ∧ M1.m a = some (.dct kvs) ∧ kvs.length < sizeLine ∧ Q ρ (M1.put a (.dct (puD kvs (Sum.inr x : Key) d)))) : WG C (.Subscript o (.Constant (.str x) j p) pos) d ρ M Q :=
  wg_sub ha (h.imp fun y M1 ⟨a, kvs, e, h1, h2, q⟩ => we_str (by subst e; exact sd_dct (k := Sum.inr x) hc h1 h2 q))
/-- how a method's call is written -/
def Meth1 (o : Expr) (name : Str) (e : Expr) (apos cpos : Pos) : Prop := (∀ env, attributeBase o name env (eval o env) = eval o env) ∧
  (∀ env, ((backTo cpos (starEach [e] env)).all (fun x => !x.1) && (backToKw cpos (keywordEach [] env)).all (fun x => x.1.isSome) && decide ([e].length + ([] : List Keyword).length + (if ([] : List Keyword).isEmpty then 0 else 1) < 30)) = true) ∧
  (apos.endLine == cpos.line) = true ∧ (∀ env, starEach [e] env = (false, eval e env) :: starEach [] env) ∧ ∀ env, (backTo cpos (starEach [] env)).any (·.1) = false
theorem we_app {o e : Expr} {apos cpos : Pos} {Q : D → MS → Prop} (hm : Meth1 o "append" e apos cpos) (h : WE C o ρ M fun x M1 => ∃ a, x = .r a ∧ (∃ xs0, M1.m a = some (.lst xs0)) ∧ WE C e ρ M1 fun y M2 => ∃ xs, M2.m a = some (.lst xs) ∧ xs.length < sizeLine ∧ Q (.d .none) (M2.put a (.lst (xs ++ [y])))) : WE C (.Call (.Attribute o "append" apos) [e] [] cpos) ρ M Q := by
  obtain ⟨h1, h2, h3, h4, h5⟩ := hm
  refine we_meth PySem.F.plainAttrs_list PySem.F.slot_list_append PySem.F.type_list_append h1 h2 h3 h4 h5 (h.imp fun x M1 ⟨a, e1, ⟨xs0, e2⟩, q⟩ => ?_)
  subst e1
  exact ⟨.inl ⟨rfl, xs0, e2⟩, wa_cons h4 (q.imp fun y M2 ⟨xs, g1, g2, g3⟩ => wa_nil (mt_app g1 g2 g3))⟩
theorem we_pop1 {o e : Expr} {apos cpos : Pos} {Q : D → MS → Prop} (hm : Meth1 o "pop" e apos cpos) (h : WE C o ρ M fun x M1 => ∃ a, x = .r a ∧ (∃ xs0, M1.m a = some (.lst xs0)) ∧ WE C e ρ M1 fun y M2 => ∃ (n : Nat) (xs : List D) (z : D), y = .d (.int (n : Int)) ∧ M2.m a = some (.lst xs) ∧ n < 2 ^ 62 ∧ xs[n]? = some z ∧ Q z (M2.put a (.lst (xs.eraseIdx n)))) : WE C (.Call (.Attribute o "pop" apos) [e] [] cpos) ρ M Q := by
  obtain ⟨h1, h2, h3, h4, h5⟩ := hm
  refine we_meth PySem.F.plainAttrs_list PySem.F.slot_list_pop PySem.F.type_list_pop h1 h2 h3 h4 h5 (h.imp fun x M1 ⟨a, e1, ⟨xs0, e2⟩, q⟩ => ?_)
  subst e1
  refine ⟨.inl ⟨rfl, xs0, e2⟩, wa_cons h4 (q.imp fun y M2 ⟨n, xs, z, g0, g1, g2, g3, g4⟩ => wa_nil ?_)⟩
  subst g0
  have hn : n < xs.length := (List.getElem?_eq_some_iff.mp g3).1
  refine mt_pop1 g1 ⟨by omega, by omega⟩ ?_ g3 g4
  unfold seqIndex?
  rw [if_neg (by omega : ¬ (n : Int) < 0)]
  simp [hn]
def undD : List D → List PyData
  | [] => []
  | .d x :: r => x :: undD r
  | .r _ :: r => PyData.none :: undD r
theorem lstU {xs : List D} {Q : D → MS → Prop} (hl : xs.length ≤ 100000) (e : xs = (undD xs).map D.d) (h : Q (.d (.list (undD xs))) M) : xs.length ≤ sizeLine ∧ NewL Q M xs := ⟨by rw [sizeLine_eq]; omega, .data' _ e h⟩
theorem tupU {xs : List D} {P : List PyData → Prop} (hl : xs.length ≤ 100000) (e : xs = (undD xs).map D.d) (h : P (undD xs)) : xs.length ≤ sizeLine ∧ ∃ ds, xs = ds.map D.d ∧ P ds := ⟨by rw [sizeLine_eq]; omega, _, e, h⟩
/-- a list and a list, as data -/
theorem od_catDD {xs ys : List PyData} {Q : D → MS → Prop} (hl : xs.length + ys.length ≤ sizeLine) (k : Q (.d (.list (xs ++ ys))) M) : OpD C (binaryOp .Add) (.d (.list xs)) (.d (.list ys)) M Q :=
  od_catL (.inl ⟨xs, rfl, rfl⟩) (.inl ⟨ys, rfl, rfl⟩) (by simpa using hl) (.data' (xs ++ ys) (by simp) k)
theorem len_app (a b : Str) : (a ++ b).length = a.length + b.length := by
  show (a.cps ++ b.cps).size = _
  rw [Array.size_append]; rfl
theorem len_cutS (s : Str) (lo hi : Option Int) : (cutS s lo hi).length = min (HT.sIx s.length s.length hi - HT.sIx s.length 0 lo) (s.length - HT.sIx s.length 0 lo) := by
  unfold cutS
  show (List.toArray _).size = _
  rw [List.size_toArray, List.length_take, List.length_drop]
  rfl
theorem sl_strG {s : Str} {lo hi : Option Int} {Q : D → MS → Prop} (hz : s.length ≤ sizeLine) (k : Q (.d (.str (cutS s lo hi))) M) : SlD C (.d (.str s)) lo hi M Q := ⟨hz, k⟩
theorem ca_lenG {s : Str} {Q : D → MS → Prop} (hz : s.length ≤ sizeLine) (k : Q (.d (.int (s.length : Int))) M) : CaD C (.builtin "len") [.d (.str s)] M Q := ca_len (n := s.length) ⟨hz, rfl⟩ k
end
end Y

namespace Y
open PySem PySem.Spec PyProof.Rows L2
local macro_rules | `(tactic| walk_at "ydec") => `(tactic| (first | assumption | (dsimp only [Ct.blk, Ct.tr, Ct.suite, cxD]; decide +kernel) | decide +kernel))
local macro_rules | `(tactic| walk_at "ylen") => `(tactic| (first | omega | (simp only [List.length_cons, List.length_nil, List.length_append, sizeLine_eq] at *; omega)))
local macro_rules | `(tactic| walk_at "ylen2") => `(tactic| first | omega | (simp only [sizeLine_eq, len_app, len_cutS]; omega))
local macro_rules | `(tactic| walk_at "y") => `(tactic| (first
  | apply wss_cons
  | apply ws_ret
  | apply ws_if
  | apply ws_doc
  | (apply ws_asg; (focus exact fun _ _ => rfl); (focus exact fun _ => rfl); (focus exact fun _ => rfl))
  | (apply wg_name; (focus walk_at "ydec"); (focus walk_at "ydec"))
  | (apply we_glob; (focus assumption); (focus walk_at "ydec"))
  | (apply we_name; (focus rfl); (focus walk_at "ydec"))
  | apply we_int
  | apply we_str
  | apply we_bool
  | apply we_none
  | apply we_bin
  | (apply we_cmp; (focus rfl))
  | (apply we_cmp2; (focus rfl))
  | (apply wt_cmp; (focus rfl))
  | (apply wt_cmp2; (focus rfl))
  | apply wt_not
  | refine wt_w (ww_and ?_)
  | refine wt_w (ww_or ?_)
  | apply ww_and
  | apply ww_or
  | apply ww_and1
  | apply ww_or1
  | (apply wa_cons; (focus exact fun _ => rfl))
  | apply wa_nil
  | apply we_list
  | apply we_tuple
  | apply we_if
  | apply we_not
  | apply we_one
  | apply we_and
  | apply we_or
  | apply we_slice
  | apply wo_none
  | apply wo_some
  | apply we_neg
  | (apply we_app; (focus exact ⟨fun _ => rfl, fun _ => rfl, rfl, fun _ => rfl, fun _ => rfl⟩))
  | (apply we_pop1; (focus exact ⟨fun _ => rfl, fun _ => rfl, rfl, fun _ => rfl, fun _ => rfl⟩))
  | (apply we_isiT; (focus assumption); (focus assumption); (focus rfl); (focus walk_at "ydec"); (focus walk_at "ydec"); (focus exact fun _ => rfl))
  | (apply we_isiC; (focus assumption); (focus assumption); (focus walk_at "ydec"); (focus walk_at "ydec"); (focus exact fun _ => rfl))
  | (apply we_call; (focus assumption); (focus exact Nat.le_of_ble_eq_true rfl); (focus rfl); (focus walk_at "ydec"); (focus exact fun _ => rfl); (focus exact fun _ => rfl))
  | (apply we_call0; (focus assumption); (focus exact Nat.le_of_ble_eq_true rfl); (focus rfl); (focus walk_at "ydec"))
  | (apply we_callB; (focus assumption); (focus rfl); (focus walk_at "ydec"); (focus exact fun _ => rfl); (focus exact fun _ => rfl))
  | (apply we_callT; (focus assumption); (focus rfl); (focus walk_at "ydec"); (focus exact fun _ => rfl); (focus exact fun _ => rfl))
  | (apply we_dgetS; (focus rfl); (focus exact fun _ _ => rfl))
  | (apply we_ix; (focus exact fun _ _ => rfl))
  | apply wss_nil
  | apply ws_ret0
  | apply ws_pass
  | apply ws_break
  | apply ws_continue
  | (apply ws_expr; (focus exact fun _ => rfl))
  | (apply wgs_cons; (focus exact fun _ => rfl))
  | apply wgs_nil
  | (apply wg_tup; (focus rfl); (focus exact fun _ => rfl); (focus exact fun _ => rfl); (focus rfl))
  | (apply wg_dctS; (focus rfl); (focus exact fun _ _ => rfl))
  | (apply wg_sub; (focus exact fun _ _ => rfl))
  | (apply wt_bool; (focus exact fun _ _ => rfl))
  | apply od_add
  | apply od_sub
  | apply oc_lt
  | apply oc_le
  | apply oc_gt
  | apply oc_ge
  | apply oc_eqI
  | apply oc_neI
  | apply oc_eqSL
  | apply oc_neSL
  | apply oc_eqS
  | apply oc_neS
  | apply oc_eqB
  | apply oc_neB
  | apply oc_isN
  | apply oc_notN
  | apply oc_isB
  | apply oc_notB
  | apply oc_inCL
  | apply oc_niCL
  | apply ca_lenT
  | apply ca_lenL
  | (apply od_addSL; (focus walk_at "ylen"))
  | (apply ca_lenS; (focus walk_at "ylen"))
  | (apply ca_lenR; (focus assumption))
  | (apply sl_str; (focus walk_at "ylen"))
  | (apply ca_lenG; (focus walk_at "ylen2"))
  | (apply sl_strG; (focus walk_at "ylen2"))
  | (apply od_addS; (focus walk_at "ylen2"))
  | (apply od_pow; (focus exact ⟨by omega, by omega, by decide⟩))
  | (apply od_fdiv; (focus exact ⟨by omega, by omega⟩))
  | (apply od_mul; (focus (first | exact .inr ⟨by omega, by omega⟩ | exact .inl ⟨by omega, by omega⟩)))
  | (apply od_mod; (focus walk_at "ylen"))
  | apply ca_int
  | apply exB
  | apply exI))
local macro_rules | `(tactic| walk_at "ys") => `(tactic| repeat (first
  | apply wss_cons
  | apply ws_ret
  | apply ws_if
  | apply ws_doc
  | (apply ws_asg; (focus exact fun _ _ => rfl); (focus exact fun _ => rfl); (focus exact fun _ => rfl))
  | (apply wg_name; (focus walk_at "ydec"); (focus walk_at "ydec"))
  | (apply we_glob; (focus assumption); (focus walk_at "ydec"))
  | (apply we_name; (focus rfl); (focus walk_at "ydec"))
  | apply we_int
  | apply we_str
  | apply we_bool
  | apply we_none
  | apply we_bin
  | (apply we_cmp; (focus rfl))
  | (apply we_cmp2; (focus rfl))
  | (apply wt_cmp; (focus rfl))
  | (apply wt_cmp2; (focus rfl))
  | apply wt_not
  | refine wt_w (ww_and ?_)
  | refine wt_w (ww_or ?_)
  | apply ww_and
  | apply ww_or
  | apply ww_and1
  | apply ww_or1
  | (apply wa_cons; (focus exact fun _ => rfl))
  | apply wa_nil
  | apply we_list
  | apply we_tuple
  | apply we_if
  | apply we_not
  | apply we_one
  | apply we_and
  | apply we_or
  | apply we_slice
  | apply wo_none
  | apply wo_some
  | apply we_neg
  | (apply we_app; (focus exact ⟨fun _ => rfl, fun _ => rfl, rfl, fun _ => rfl, fun _ => rfl⟩))
  | (apply we_pop1; (focus exact ⟨fun _ => rfl, fun _ => rfl, rfl, fun _ => rfl, fun _ => rfl⟩))
  | (apply we_isiT; (focus assumption); (focus assumption); (focus rfl); (focus walk_at "ydec"); (focus walk_at "ydec"); (focus exact fun _ => rfl))
  | (apply we_isiC; (focus assumption); (focus assumption); (focus walk_at "ydec"); (focus walk_at "ydec"); (focus exact fun _ => rfl))
  | (apply we_call; (focus assumption); (focus exact Nat.le_of_ble_eq_true rfl); (focus rfl); (focus walk_at "ydec"); (focus exact fun _ => rfl); (focus exact fun _ => rfl))
  | (apply we_call0; (focus assumption); (focus exact Nat.le_of_ble_eq_true rfl); (focus rfl); (focus walk_at "ydec"))
  | (apply we_callB; (focus assumption); (focus rfl); (focus walk_at "ydec"); (focus exact fun _ => rfl); (focus exact fun _ => rfl))
  | (apply we_callT; (focus assumption); (focus rfl); (focus walk_at "ydec"); (focus exact fun _ => rfl); (focus exact fun _ => rfl))
  | (apply we_dgetS; (focus rfl); (focus exact fun _ _ => rfl))
  | (apply we_ix; (focus exact fun _ _ => rfl))
  | apply wss_nil
  | apply ws_ret0
  | apply ws_pass
  | apply ws_break
  | apply ws_continue
  | (apply ws_expr; (focus exact fun _ => rfl))
  | (apply wgs_cons; (focus exact fun _ => rfl))
  | apply wgs_nil
  | (apply wg_tup; (focus rfl); (focus exact fun _ => rfl); (focus exact fun _ => rfl); (focus rfl))
  | (apply wg_dctS; (focus rfl); (focus exact fun _ _ => rfl))
  | (apply wg_sub; (focus exact fun _ _ => rfl))
  | (apply wt_bool; (focus exact fun _ _ => rfl))
  | apply od_add
  | apply od_sub
  | apply oc_lt
  | apply oc_le
  | apply oc_gt
  | apply oc_ge
  | apply oc_eqI
  | apply oc_neI
  | apply oc_eqSL
  | apply oc_neSL
  | apply oc_eqS
  | apply oc_neS
  | apply oc_eqB
  | apply oc_neB
  | apply oc_isN
  | apply oc_notN
  | apply oc_isB
  | apply oc_notB
  | apply oc_inCL
  | apply oc_niCL
  | apply ca_lenT
  | apply ca_lenL
  | (apply od_addSL; (focus walk_at "ylen"))
  | (apply ca_lenS; (focus walk_at "ylen"))
  | (apply ca_lenR; (focus assumption))
  | (apply sl_str; (focus walk_at "ylen"))
  | (apply ca_lenG; (focus walk_at "ylen2"))
  | (apply sl_strG; (focus walk_at "ylen2"))
  | (apply od_addS; (focus walk_at "ylen2"))
  | (apply od_pow; (focus exact ⟨by omega, by omega, by decide⟩))
  | (apply od_fdiv; (focus exact ⟨by omega, by omega⟩))
  | (apply od_mul; (focus (first | exact .inr ⟨by omega, by omega⟩ | exact .inl ⟨by omega, by omega⟩)))
  | (apply od_mod; (focus walk_at "ylen"))
  | apply ca_int
  | apply exB
  | apply exI))
local macro_rules | `(tactic| walk_at "yd") => `(tactic| refine we_dget rfl (fun _ _ => rfl) ?_)

section
def top (i : Nat) : Stmt := PySem.Challenge.pw_allfollowed_k00_names_and_sayings.main.body.getD i (.Pass ⟨0, 0, 0, 0⟩)
theorem big : (16777216 : Nat) = sizeLine := sizeLine_eq.symm
theorem lt_big {n : Nat} (h : n ≤ 100000) : n ≤ sizeLine := by rw [sizeLine_eq]; omega
theorem dash : ("-" : Str) = S [45] := by decide +kernel
variable {g : GD}
theorem cut1 {c : Nat} {t : List Nat} : cutL (c :: t) (some 1) none = t := by
  rw [show (some (1 : Int)) = some ((1 : Nat) : Int) from rfl, cutL_from]; rfl
/-! ### contrary, sign_of, is_yes -/
abbrev sContrary : Stmt := top 14
theorem scContrary : FnScope ["saying"] ["saying"] (defScope sContrary) := ⟨rfl, rfl, rfl, by decide +kernel, rfl, by decide +kernel, by decide +kernel⟩
def contraryL : List Nat → List Nat
  | [] => []
  | c :: t => if c = 45 then t else 45 :: c :: t
def spContrary : SpD := fun ds M Q E => ∃ c t, ds = [.d (.str (S (c :: t)))] ∧ t.length ≤ 5000 ∧ Q (.d (.str (S (contraryL (c :: t))))) M
theorem ok_contrary {f : Addr} {fd : FuncData} (F : Fun g.K "contrary" "contrary" sContrary f fd) (hm : g.mg "contrary" = some (.ref f)) (hb : L2.Binds g.K fd ["saying"] []) : DefOk g 1 "contrary" "contrary" sContrary ["saying"] spContrary := by
  refine def_ok F hm scContrary hb (fun ds M Q E ⟨c, t, e, _⟩ => by subst e; rfl) fun ds M Q E ⟨c, t, e, h1, hq⟩ => ?_
  subst e
  have hz : (c :: t).length ≤ sizeLine := lt_big (by simp; omega)
  walk_at "ys"
  refine ix_str hz (c := c) (atI_nat (n := 0) rfl rfl) ?_
  walk_at "y"
  rw [dash]
  walk_at "ys"
  refine br (fun h => ?_) (fun h => ?_)
  · walk_at "ys"
    rw [cut1]
    have e : contraryL (c :: t) = t := if_pos (by simpa using h)
    rw [e] at hq
    exact hq
  · walk_at "ys"
    have e : contraryL (c :: t) = 45 :: c :: t := if_neg (by simpa using h)
    rw [e] at hq
    exact hq
abbrev sSignOf : Stmt := top 15
theorem scSignOf : FnScope ["saying"] ["saying"] (defScope sSignOf) := ⟨rfl, rfl, rfl, by decide +kernel, rfl, by decide +kernel, by decide +kernel⟩
def signOfL : List Nat → List Nat
  | [] => []
  | c :: t => if c = 45 then t else c :: t
def spSignOf : SpD := fun ds M Q E => ∃ c t, ds = [.d (.str (S (c :: t)))] ∧ t.length ≤ 5000 ∧ Q (.d (.str (S (signOfL (c :: t))))) M
theorem ok_sign_of {f : Addr} {fd : FuncData} (F : Fun g.K "sign_of" "sign_of" sSignOf f fd) (hm : g.mg "sign_of" = some (.ref f)) (hb : L2.Binds g.K fd ["saying"] []) : DefOk g 1 "sign_of" "sign_of" sSignOf ["saying"] spSignOf := by
  refine def_ok F hm scSignOf hb (fun ds M Q E ⟨c, t, e, _⟩ => by subst e; rfl) fun ds M Q E ⟨c, t, e, h1, hq⟩ => ?_
  subst e
  have hz : (c :: t).length ≤ sizeLine := lt_big (by simp; omega)
  walk_at "ys"
  refine ix_str hz (c := c) (atI_nat (n := 0) rfl rfl) ?_
  walk_at "y"
  rw [dash]
  walk_at "ys"
  refine br (fun h => ?_) (fun h => ?_)
  · walk_at "ys"
    rw [cut1]
    have e : signOfL (c :: t) = t := if_pos (by simpa using h)
    rw [e] at hq
    exact hq
  · walk_at "ys"
    have e : signOfL (c :: t) = c :: t := if_neg (by simpa using h)
    rw [e] at hq
    exact hq
abbrev sIsYes : Stmt := top 16
theorem scIsYes : FnScope ["saying"] ["saying"] (defScope sIsYes) := ⟨rfl, rfl, rfl, by decide +kernel, rfl, by decide +kernel, by decide +kernel⟩
def spIsYes : SpD := fun ds M Q E => ∃ c t, ds = [.d (.str (S (c :: t)))] ∧ t.length ≤ 5000 ∧ Q (.d (.bool (!decide (c = 45)))) M
theorem ok_is_yes {f : Addr} {fd : FuncData} (F : Fun g.K "is_yes" "is_yes" sIsYes f fd) (hm : g.mg "is_yes" = some (.ref f)) (hb : L2.Binds g.K fd ["saying"] []) : DefOk g 1 "is_yes" "is_yes" sIsYes ["saying"] spIsYes := by
  refine def_ok F hm scIsYes hb (fun ds M Q E ⟨c, t, e, _⟩ => by subst e; rfl) fun ds M Q E ⟨c, t, e, h1, hq⟩ => ?_
  subst e
  have hz : (c :: t).length ≤ sizeLine := lt_big (by simp; omega)
  walk_at "ys"
  refine ix_str hz (c := c) (atI_nat (n := 0) rfl rfl) ?_
  walk_at "y"
  rw [dash]
  walk_at "ys"
  rw [show decide ([c] = [45]) = decide (c = 45) from decide_eq_decide.mpr (by simp)]
  exact hq
/-! ### name_fault -/
/-- the module's constants and what built-in names stand for themselves -/
def LET : Str := "abcdefghijklmnopqrstuvwxyz"
def FIG : Str := "0123456789"
def OWNS : List Str := ["and", "or", "not", "if", "same", "odd", "most", "least", "signs", "clause", "plant", "kind", "part", "ports", "inner", "mains", "place", "say", "back", "told", "none", "clash", "drop", "add", "undo"]
structure T0 (g : GD) (cF cB cS : Addr) : Prop where
  len : g.mg "len" = none
  isi : g.mg "isinstance" = none
  abs : g.mg "abs" = none
  int : g.mg "int" = none
  range : g.mg "range" = none
  all : g.mg "all" = none
  list : g.mg "list" = none
  tuple : g.mg "tuple" = none
  str : g.mg "str" = none
  bool : g.mg "bool" = none
  verr : g.mg "ValueError" = none
  lets : GlobD g "LETTERS" (.d (.str LET))
  figs : GlobD g "FIGURES" (.d (.str FIG))
  most : GlobD g "NAME_MOST" (.d (.int 8))
  own : GlobD g "OWN_WORDS" (.d (.tuple (OWNS.map PyData.str)))
  mF : g.mg "FollowError" = some (.ref cF)
  mS : g.mg "BadStep" = some (.ref cS)
  bad : ExcD g "BadName" cB ["word"]
  badf : ExcF g.K cB ["word"]
  exm : PySem.W.exmOne g.K (.ref cB) (.ref cB) = some true
  kF : PySem.W.kitOne g.K (.ref cB) (.ref cF) = some true
  kV : PySem.W.kitOne g.K (.ref cB) (.type "ValueError") = some true
  kS : PySem.W.kitOne g.K (.ref cB) (.ref cS) = some false
def noD : PyData → Prop
  | .dict _ => False
  | _ => True
/-- the first word that fits, empty for a name -/
def fwL (l : List Nat) : Str :=
  if l.length = 0 ∨ 8 < l.length then "length"
  else if (l.all fun c => decide (c ∈ LET.cps.toList) || decide (c ∈ FIG.cps.toList)) = false then "sign"
  else if l.headD 0 ∈ FIG.cps.toList then "begin"
  else if inStr (S l) OWNS = true then "word" else Str.empty
def fw : PyData → Str
  | .str s => fwL s.cps.toList
  | _ => "shape"
theorem isi_str {C : Ct} {M : MS} {d : PyData} {R : Bool → Prop} (h : noD d) (k : R (match d with | .str _ => true | _ => false)) : IsiD C M (.d d) (.type "str") R := by
  refine .inl ?_
  cases d with
  | none => exact ⟨"NoneType", false, rfl, kit_ty (by decide +kernel), k⟩
  | bool _ => exact ⟨"bool", false, rfl, kit_ty (by decide +kernel), k⟩
  | int _ => exact ⟨"int", false, rfl, kit_ty (by decide +kernel), k⟩
  | str _ => exact ⟨"str", true, rfl, kit_ty (by decide +kernel), k⟩
  | list _ => exact ⟨"list", false, rfl, kit_ty (by decide +kernel), k⟩
  | tuple _ => exact ⟨"tuple", false, rfl, kit_ty (by decide +kernel), k⟩
  | dict _ => exact h.elim
abbrev sFault : Stmt := top 9
theorem scFault : FnScope ["thing", "sign"] ["thing"] (defScope sFault) := ⟨rfl, rfl, rfl, by decide +kernel, rfl, by decide +kernel, by decide +kernel⟩
def okThing : PyData → Prop
  | .str s => s.length ≤ 5000
  | d => noD d
theorem okThing.noD {d : PyData} (h : okThing d) : noD d := by cases d <;> first | exact h | trivial
def spFault : SpD := fun ds M Q E => ∃ d, ds = [.d d] ∧ okThing d ∧ Q (.d (if fw d = Str.empty then .none else .str (fw d))) M
theorem ok_name_fault {cF cB cS f : Addr} {fd : FuncData} (T : T0 g cF cB cS) (F : Fun g.K "name_fault" "name_fault" sFault f fd) (hm : g.mg "name_fault" = some (.ref f)) (hb : L2.Binds g.K fd ["thing"] []) : DefOk g 1 "name_fault" "name_fault" sFault ["thing"] spFault := by
  refine def_ok F hm scFault hb (fun ds M Q E ⟨d, e, _⟩ => by subst e; rfl) fun ds M Q E ⟨d, e, h1, hq⟩ => ?_
  subst e
  have t1 := T.len
  have t2 := T.all
  have t3 := T.lets
  have t4 := T.figs
  have t5 := T.most
  have t6 := T.own
  have t7 := T.isi
  have t8 := T.str
  walk_at "ys"
  refine isi_str h1.noD ⟨_, rfl, ?_⟩
  have go : (∃ l, d = .str (S l)) ∨ ((match d with | .str _ => true | _ => false) = false ∧ fw d = "shape") := by
    cases d with
    | str s => exact .inl ⟨s.cps.toList, by rw [S_self]⟩
    | _ => exact .inr ⟨rfl, rfl⟩
  rcases go with ⟨l, rfl⟩ | ⟨e, ef⟩
  · refine brF rfl ?_
    have hl : l.length ≤ 5000 := by have := (show (S l).length ≤ 5000 from h1); rw [S_len] at this; exact this
    have hz : l.length ≤ sizeLine := lt_big (by omega)
    have ef : fw (.str (S l)) = fwL l := by show fwL (S l).cps.toList = _; rw [S_cps]
    rw [ef] at hq
    walk_at "ys"
    refine br (fun h1 => ?_) (fun h1 => ?_)
    · walk_at "ys"
      refine brN (fun h2 => ?_) (fun h2 => ?_)
      · have e : fwL l = "length" := if_pos (.inr (by omega))
        rw [e] at hq
        walk_at "ys"
        exact hq
      · have h3 : ¬ (l.length = 0 ∨ 8 < l.length) := by omega
        walk_at "ys"
        refine we_lc rfl (by walk_at "ydec") .one (by walk_at "ydec") (fun _ _ => rfl) ?_
        refine wi_seq ?_
        walk_at "ys"
        refine ⟨_, _, ⟨rfl, rfl⟩, ?_⟩
        rw [S_cps]
        refine lc_map (fun c => .d (.bool (decide (c ∈ LET.cps.toList) || decide (c ∈ FIG.cps.toList)))) hz (fun _ _ => trivial) (fun c M' hc hle => ?_) ?_
        · refine ⟨_, .one, ?_⟩
          rw [S_one]
          walk_at "ys"
          refine br (fun h => ⟨rfl, by rw [decide_eq_true h]; rfl⟩) (fun h => ?_)
          walk_at "ys"
          exact ⟨rfl, by rw [decide_eq_false h]; rfl⟩
        · have em : (l.map fun c => D.d (.bool (decide (c ∈ LET.cps.toList) || decide (c ∈ FIG.cps.toList)))) = (l.map fun c => (decide (c ∈ LET.cps.toList) || decide (c ∈ FIG.cps.toList))).map fun b => D.d (.bool b) := by rw [List.map_map]; rfl
          refine .data' ((l.map fun c => (decide (c ∈ LET.cps.toList) || decide (c ∈ FIG.cps.toList))).map PyData.bool) (by rw [List.map_map, List.map_map]; rfl) ?_
          walk_at "ys"
          refine ca_all (bs := l.map fun c => (decide (c ∈ LET.cps.toList) || decide (c ∈ FIG.cps.toList))) rfl (.inl ⟨_, rfl, by rw [List.map_map, List.map_map, List.map_map]; rfl⟩) ?_
          refine ⟨_, rfl, ?_⟩
          have eall : (l.map fun c => (decide (c ∈ LET.cps.toList) || decide (c ∈ FIG.cps.toList))).all id = l.all fun c => decide (c ∈ LET.cps.toList) || decide (c ∈ FIG.cps.toList) := by rw [List.all_map]; rfl
          rw [eall]
          cases e4 : l.all fun c => decide (c ∈ LET.cps.toList) || decide (c ∈ FIG.cps.toList) with
          | false =>
            have e : fwL l = "sign" := by unfold fwL; rw [if_neg h3, if_pos e4]
            rw [e] at hq
            refine brT rfl ?_
            walk_at "ys"
            exact hq
          | true =>
            refine brF rfl ?_
            walk_at "ys"
            obtain ⟨c0, t0, rfl⟩ : ∃ c0 t0, l = c0 :: t0 := by
              cases l with
              | nil => exact absurd rfl (show ¬ ([] : List Nat) = [] from fun _ => h3 (.inl rfl))
              | cons a b => exact ⟨a, b, rfl⟩
            refine ix_str hz (c := c0) (atI_nat (n := 0) rfl rfl) ?_
            walk_at "ys"
            refine br (fun h5 => ?_) (fun h5 => ?_)
            · have e : fwL (c0 :: t0) = "begin" := by unfold fwL; rw [if_neg h3, if_neg (by rw [e4]; decide), if_pos (by exact h5)]
              rw [e] at hq
              walk_at "ys"
              exact hq
            · walk_at "ys"
              refine oc_inSt (ys := OWNS) (.inl rfl) ?_
              refine ⟨_, rfl, ?_⟩
              cases e6 : inStr (S (c0 :: t0)) OWNS with
              | true =>
                have e : fwL (c0 :: t0) = "word" := by unfold fwL; rw [if_neg h3, if_neg (by rw [e4]; decide), if_neg (by exact h5), if_pos e6]
                rw [e] at hq
                refine brT rfl ?_
                walk_at "ys"
                exact hq
              | false =>
                have e : fwL (c0 :: t0) = Str.empty := by unfold fwL; rw [if_neg h3, if_neg (by rw [e4]; decide), if_neg (by exact h5), if_neg (by rw [e6]; decide)]
                rw [e] at hq
                refine brF rfl ?_
                walk_at "ys"
                exact hq
    · have e : fwL l = "length" := if_pos (.inl (by omega))
      rw [e] at hq
      refine brT rfl ?_
      walk_at "ys"
      exact hq
  · refine brT (by have e' := e; revert e'; cases d <;> simp) ?_
    rw [ef] at hq
    walk_at "ys"
    exact hq
/-! ### check_name, is_name, is_saying -/
theorem fw_str {l : List Nat} : fw (.str (S l)) = fwL l := by show fwL (S l).cps.toList = _; rw [S_cps]
theorem okStr {l : List Nat} (h : okThing (.str (S l))) : l.length ≤ 5000 := by have := (show (S l).length ≤ 5000 from h); rw [S_len] at this; exact this
theorem strOf (d : PyData) : (∃ l, d = .str (S l)) ∨ (∀ s, d ≠ .str s) ∧ fw d = "shape" := by
  cases d with
  | str s => exact .inl ⟨s.cps.toList, by rw [S_self]⟩
  | _ => exact .inr ⟨fun s h => (nomatch h), rfl⟩
theorem shape_ne : ("shape" : Str) ≠ Str.empty := by decide +kernel
abbrev sCheck : Stmt := top 10
theorem scCheck : FnScope ["thing", "word"] ["thing"] (defScope sCheck) := ⟨rfl, rfl, rfl, by decide +kernel, rfl, by decide +kernel, by decide +kernel⟩
def spCheck (cB : Addr) : SpD := fun ds M Q E => ∃ d, ds = [.d d] ∧ okThing d ∧ ((∃ l, d = .str (S l) ∧ fwL l = Str.empty ∧ Q (.d (.int (l.length : Int))) M) ∨ (fw d ≠ Str.empty ∧ E (.ref cB) [("word", .d (.str (fw d)))] M))
theorem ok_check_name {cF cB cS f : Addr} {fd : FuncData} (T : T0 g cF cB cS) (D1 : DefOk g 1 "name_fault" "name_fault" sFault ["thing"] spFault) (F : Fun g.K "check_name" "check_name" sCheck f fd) (hm : g.mg "check_name" = some (.ref f)) (hb : L2.Binds g.K fd ["thing"] []) : DefOk g 3 "check_name" "check_name" sCheck ["thing"] (spCheck cB) := by
  refine def_ok F hm scCheck hb (fun ds M Q E ⟨d, e, _⟩ => by subst e; rfl) fun ds M Q E ⟨d, e, h1, hq⟩ => ?_
  subst e
  have t1 := T.len
  walk_at "ys"
  refine ⟨d, rfl, h1, ?_⟩
  rcases hq with ⟨l, rfl, h2, hq⟩ | ⟨h2, hq⟩
  · have hz : l.length ≤ sizeLine := lt_big (by have := okStr h1; omega)
    rw [fw_str, if_pos h2]
    walk_at "ys"
    exact hq
  · rw [if_neg h2]
    walk_at "ys"
    refine ws_raise T.bad (by exact Nat.le_of_ble_eq_true rfl) rfl (by walk_at "ydec") (fun _ => rfl) (fun _ => rfl) ?_
    walk_at "ys"
    exact ⟨rfl, hq⟩
abbrev sIsName : Stmt := top 11
theorem scIsName : FnScope ["thing"] ["thing"] (defScope sIsName) := ⟨rfl, rfl, rfl, by decide +kernel, rfl, by decide +kernel, by decide +kernel⟩
def spIsName : SpD := fun ds M Q E => ∃ d, ds = [.d d] ∧ okThing d ∧ Q (.d (.bool (decide (fw d = Str.empty)))) M
theorem ok_is_name {f : Addr} {fd : FuncData} (D1 : DefOk g 1 "name_fault" "name_fault" sFault ["thing"] spFault) (F : Fun g.K "is_name" "is_name" sIsName f fd) (hm : g.mg "is_name" = some (.ref f)) (hb : L2.Binds g.K fd ["thing"] []) : DefOk g 3 "is_name" "is_name" sIsName ["thing"] spIsName := by
  refine def_ok F hm scIsName hb (fun ds M Q E ⟨d, e, _⟩ => by subst e; rfl) fun ds M Q E ⟨d, e, h1, hq⟩ => ?_
  subst e
  walk_at "ys"
  refine ⟨d, rfl, h1, ?_⟩
  by_cases h2 : fw d = Str.empty
  · rw [if_pos h2]
    rw [decide_eq_true h2] at hq
    walk_at "ys"
    exact hq
  · rw [if_neg h2]
    rw [decide_eq_false h2] at hq
    walk_at "ys"
    exact hq
abbrev sIsSaying : Stmt := top 12
theorem scIsSaying : FnScope ["thing"] ["thing"] (defScope sIsSaying) := ⟨rfl, rfl, rfl, by decide +kernel, rfl, by decide +kernel, by decide +kernel⟩
/-- a saying -/
def sayL : List Nat → Bool
  | 45 :: t => decide (fwL t = Str.empty)
  | l => decide (fwL l = Str.empty)
def sayB : PyData → Bool
  | .str s => sayL s.cps.toList
  | _ => false
def spIsSaying : SpD := fun ds M Q E => ∃ d, ds = [.d d] ∧ okThing d ∧ Q (.d (.bool (sayB d))) M
theorem okThing_S {l : List Nat} (h : l.length ≤ 5000) : okThing (.str (S l)) := by show (S l).length ≤ 5000; rw [S_len]; exact h
theorem ok_is_saying {cF cB cS f : Addr} {fd : FuncData} (T : T0 g cF cB cS) (D1 : DefOk g 3 "is_name" "is_name" sIsName ["thing"] spIsName) (F : Fun g.K "is_saying" "is_saying" sIsSaying f fd) (hm : g.mg "is_saying" = some (.ref f)) (hb : L2.Binds g.K fd ["thing"] []) : DefOk g 5 "is_saying" "is_saying" sIsSaying ["thing"] spIsSaying := by
  refine def_ok F hm scIsSaying hb (fun ds M Q E ⟨d, e, _⟩ => by subst e; rfl) fun ds M Q E ⟨d, e, h1, hq⟩ => ?_
  subst e
  have t1 := T.isi
  have t2 := T.str
  walk_at "ys"
  refine isi_str h1.noD (exB ?_)
  rcases strOf d with ⟨l, rfl⟩ | ⟨hn, hs⟩
  · refine brF rfl ?_
    have hl := okStr h1
    have hz : l.length ≤ sizeLine := lt_big (by omega)
    have eq : sayB (.str (S l)) = sayL l := by show sayL (S l).cps.toList = _; rw [S_cps]
    rw [eq] at hq
    walk_at "ys"
    rw [show (some (1 : Int)) = some ((1 : Nat) : Int) from rfl, cutL_to]
    rw [dash]
    walk_at "ys"
    refine br (fun h => ?_) (fun h => ?_)
    · have h := S_inj.mp h
      obtain ⟨t, rfl⟩ : ∃ t, l = 45 :: t := by
        cases l with
        | nil => cases h
        | cons a b => exact ⟨b, by cases h; rfl⟩
      walk_at "ys"
      rw [show (some (1 : Int)) = some ((1 : Nat) : Int) from rfl, cutL_from]
      walk_at "ys"
      refine ⟨.str (S t), rfl, okThing_S (by simp at hl; omega), ?_⟩
      rw [fw_str]
      exact hq
    · walk_at "ys"
      refine ⟨.str (S l), rfl, h1, ?_⟩
      rw [fw_str]
      have e : sayL l = decide (fwL l = Str.empty) := by
        unfold sayL
        split
        · exact absurd (S_inj.mpr rfl) h
        · rfl
      rw [e] at hq
      exact hq
  · refine brT (by cases d <;> first | rfl | exact absurd rfl (hn _)) ?_
    have e : sayB d = false := by cases d <;> first | rfl | exact absurd rfl (hn _)
    rw [e] at hq
    walk_at "ys"
    exact hq
end
section
/-! ### the well -/
def wk (d : Addr) (mud t : Int) : List (Key × D) := [(.inr "deep", .r d), (.inr "mud", .d (.int mud)), (.inr "times", .d (.int t))]
theorem va_deep {d : Addr} {mud t : Int} : vaD (wk d mud t) (Sum.inr "deep" : Key) = some (.r d) := rfl
theorem va_mud {d : Addr} {mud t : Int} : vaD (wk d mud t) (Sum.inr "mud" : Key) = some (.d (.int mud)) := rfl
theorem va_times {d : Addr} {mud t : Int} : vaD (wk d mud t) (Sum.inr "times" : Key) = some (.d (.int t)) := rfl
theorem pu_times {d : Addr} {mud t t' : Int} : puD (wk d mud t) (Sum.inr "times" : Key) (.d (.int t')) = wk d mud t' := rfl
theorem pu_mud {d : Addr} {mud t t' : Int} : puD (wk d mud t) (Sum.inr "mud" : Key) (.d (.int t')) = wk d t' t := rfl
theorem wk_len {d : Addr} {mud t : Int} : (wk d mud t).length < sizeLine := by rw [sizeLine_eq]; show 3 < 16777216; decide
def WellAt (n : Int) (M : MS) (w : Addr) : Prop := ∃ (d : Addr) (xs : List Int) (mud t : Int), w ≠ d ∧ M.m w = some (.dct (wk d mud t)) ∧ M.m d = some (.lst (xs.map fun i : Int => D.d (.int i))) ∧ xs.length ≤ 60 ∧ 0 ≤ t ∧ t ≤ n
abbrev sBucket : Stmt := top 19
theorem scBucket : FnScope ["well", "many", "water"] ["well", "many"] (defScope sBucket) := ⟨rfl, rfl, rfl, by decide +kernel, rfl, by decide +kernel, by decide +kernel⟩
def spBucket : SpD := fun ds M Q E => ∃ w many n, ds = [.r w, .d (.int many)] ∧ WellAt n M w ∧ many < 2 ^ 29 ∧ n < 2 ^ 60 ∧ ∀ M' r, WellAt (n + 1) M' w → 0 ≤ r → (1 ≤ many → r < many) → Q (.d (.int r)) M'
variable {g : GD} {cF cB cS : Addr}
theorem ok_bucket {f : Addr} {fd : FuncData} (T : T0 g cF cB cS) (F : Fun g.K "_law_bucket" "_law_bucket" sBucket f fd) (hm : g.mg "_law_bucket" = some (.ref f)) (hb : L2.Binds g.K fd ["well", "many"] []) : DefOk g 1 "_law_bucket" "_law_bucket" sBucket ["well", "many"] spBucket := by
  refine def_ok F hm scBucket hb (fun ds M Q E ⟨w, many, n, e, _⟩ => by subst e; rfl) fun ds M Q E ⟨w, many, n, e, hw, hmany, hn, hq⟩ => ?_
  subst e
  have t1 := T.len
  have t2 := T.int
  walk_at "ys"
  refine br (fun h => ?_) (fun h => ?_)
  · obtain ⟨d, xs, mud, t, h1, h2, h3, h4, h5, h6⟩ := hw
    walk_at "ys"
    exact hq M 0 ⟨d, xs, mud, t, h1, h2, h3, h4, h5, by omega⟩ (by omega) (fun _ => by omega)
  · obtain ⟨d, xs, mud, t, h1, h2, h3, h4, h5, h6⟩ := hw
    walk_at "ys"
    refine ⟨_, _, _, rfl, h2, va_times, ?_⟩
    walk_at "ys"
    refine ⟨_, _, rfl, h2, wk_len, ?_⟩
    rw [pu_times]
    have g1 : (M.put w (.dct (wk d mud (t + 1)))).m w = some (.dct (wk d mud (t + 1))) := MS.put_same
    have g2 : (M.put w (.dct (wk d mud (t + 1)))).m d = some (.lst (xs.map fun i : Int => D.d (.int i))) := by rw [MS.put_ne (Ne.symm h1)]; exact h3
    generalize M.put w (.dct (wk d mud (t + 1))) = M1 at g1 g2
    walk_at "ys"
    refine ⟨_, _, _, rfl, g1, va_deep, ?_⟩
    walk_at "ys"
    refine br (fun h7 => ?_) (fun h7 => ?_)
    · walk_at "ys"
      refine ⟨_, _, _, rfl, g1, va_deep, ?_⟩
      refine ⟨_, rfl, ⟨_, g2⟩, ?_⟩
      walk_at "ys"
      obtain ⟨x0, xt, rfl⟩ : ∃ x0 xt, xs = x0 :: xt := by
        cases xs with
        | nil => simp at h7
        | cons a b => exact ⟨a, b, rfl⟩
      refine ⟨0, _, _, rfl, g2, by decide, rfl, ?_⟩
      have g3 : (M1.put d (.lst (((x0 :: xt).map fun i : Int => D.d (.int i)).eraseIdx 0))).m d = some (.lst (xt.map fun i : Int => D.d (.int i))) := MS.put_same
      have g4 : (M1.put d (.lst (((x0 :: xt).map fun i : Int => D.d (.int i)).eraseIdx 0))).m w = some (.dct (wk d mud (t + 1))) := by rw [MS.put_ne h1]; exact g1
      generalize M1.put d (.lst (((x0 :: xt).map fun i : Int => D.d (.int i)).eraseIdx 0)) = M2 at g3 g4
      have hxl : xt.length ≤ 59 := by simp at h4; omega
      walk_at "ys"
      refine br (fun h8 => ?_) (fun h8 => ?_)
      · walk_at "ys"
        refine ⟨_, _, _, rfl, g4, va_deep, ?_⟩
        refine ⟨_, rfl, ⟨_, g3⟩, ?_⟩
        walk_at "ys"
        refine ⟨_, g3, by rw [List.length_map, sizeLine_eq]; omega, ?_⟩
        walk_at "ys"
        refine hq _ _ ⟨d, xt ++ [x0 / many], mud, t + 1, h1, ?_, ?_, ?_, by omega, by omega⟩ (Int.emod_nonneg _ (by omega)) (fun _ => Int.emod_lt_of_pos _ (by omega))
        · rw [MS.put_ne h1]; exact g4
        · rw [MS.put_same, List.map_append]; rfl
        · rw [List.length_append]; simp; omega
      · walk_at "ys"
        exact hq _ _ ⟨d, xt, mud, t + 1, h1, g4, g3, by omega, by omega, by omega⟩ (Int.emod_nonneg _ (by omega)) (fun _ => Int.emod_lt_of_pos _ (by omega))
    · walk_at "ys"
      refine ⟨_, _, _, rfl, g1, va_mud, ?_⟩
      walk_at "ys"
      refine ⟨_, _, _, rfl, g1, va_times, ?_⟩
      walk_at "ys"
      refine ⟨_, _, rfl, g1, wk_len, ?_⟩
      rw [pu_mud]
      generalize hmud : ((mud * 40014 + (t + 1) * 53) % 2147483563 : Int) = mud2
      have g5 : (M1.put w (.dct (wk d mud2 (t + 1)))).m w = some (.dct (wk d mud2 (t + 1))) := MS.put_same
      have g6 : (M1.put w (.dct (wk d mud2 (t + 1)))).m d = some (.lst (xs.map fun i : Int => D.d (.int i))) := by rw [MS.put_ne (Ne.symm h1)]; exact g2
      generalize M1.put w (.dct (wk d mud2 (t + 1))) = M3 at g5 g6
      walk_at "ys"
      refine ⟨_, _, _, rfl, g5, va_mud, ?_⟩
      walk_at "ys"
      refine ⟨_, _, _, rfl, g5, va_times, ?_⟩
      walk_at "ys"
      refine ⟨_, _, _, rfl, g5, va_times, ?_⟩
      walk_at "ys"
      exact hq _ _ ⟨d, xs, mud2, t + 1, h1, g5, g6, h4, by omega, by omega⟩ (Int.emod_nonneg _ (by omega)) (fun _ => Int.emod_lt_of_pos _ (by omega))
/-! ### _law_words -/
abbrev sWords : Stmt := top 20
theorem scWords : FnScope ["told"] [] (defScope sWords) := ⟨rfl, rfl, rfl, by decide +kernel, rfl, by decide +kernel, by decide +kernel⟩
def spWords : SpD := fun ds M Q E => ds = [] ∧ Q (.d (.list (OWNS.map PyData.str))) M
theorem ok_words {f : Addr} {fd : FuncData} (F : Fun g.K "_law_words" "_law_words" sWords f fd) (hm : g.mg "_law_words" = some (.ref f)) (hb : L2.Binds g.K fd [] []) : DefOk g 1 "_law_words" "_law_words" sWords [] spWords := by
  refine def_ok F hm scWords hb (fun ds M Q E ⟨e, _⟩ => by subst e; rfl) fun ds M Q E ⟨e, hq⟩ => ?_
  subst e
  walk_at "ys"
  refine lstU (by decide) rfl ?_
  walk_at "ys"
  refine lstU (by decide) rfl ?_
  walk_at "ys"
  refine od_catDD (by rw [sizeLine_eq]; decide) ?_
  exact hq
/-! ### _law_fault, _law_says -/
abbrev sLFault : Stmt := top 21
theorem scLFault : FnScope ["thing", "sign"] ["thing"] (defScope sLFault) := ⟨rfl, rfl, rfl, by decide +kernel, rfl, by decide +kernel, by decide +kernel⟩
def spLFault : SpD := fun ds M Q E => ∃ d, ds = [.d d] ∧ okThing d ∧ Q (.d (.str (fw d))) M
theorem letfig : ("abcdefghijklmnopqrstuvwxyz0123456789" : Str).cps.toList = LET.cps.toList ++ FIG.cps.toList := by decide +kernel
theorem ok_lfault {f : Addr} {fd : FuncData} (T : T0 g cF cB cS) (D1 : DefOk g 1 "_law_words" "_law_words" sWords [] spWords) (F : Fun g.K "_law_fault" "_law_fault" sLFault f fd) (hm : g.mg "_law_fault" = some (.ref f)) (hb : L2.Binds g.K fd ["thing"] []) : DefOk g 2 "_law_fault" "_law_fault" sLFault ["thing"] spLFault := by
  refine def_ok F hm scLFault hb (fun ds M Q E ⟨d, e, _⟩ => by subst e; rfl) fun ds M Q E ⟨d, e, h1, hq⟩ => ?_
  subst e
  have t1 := T.len
  have t2 := T.isi
  have t3 := T.str
  walk_at "ys"
  refine isi_str h1.noD (exB ?_)
  rcases strOf d with ⟨l, rfl⟩ | ⟨hn, hs⟩
  · refine brF rfl ?_
    have hl := okStr h1
    have hz : l.length ≤ sizeLine := lt_big (by omega)
    rw [fw_str] at hq
    walk_at "ys"
    refine br (fun h2 => ?_) (fun h2 => ?_)
    · have e : fwL l = "length" := if_pos (.inl (by omega))
      rw [e] at hq
      refine brT rfl ?_
      walk_at "ys"
      exact hq
    · walk_at "ys"
      refine br (fun h3 => ?_) (fun h3 => ?_)
      · have e : fwL l = "length" := if_pos (.inr (by omega))
        rw [e] at hq
        walk_at "ys"
        exact hq
      · have h4 : ¬ (l.length = 0 ∨ 8 < l.length) := by omega
        walk_at "ys"
        refine we_lc rfl (by walk_at "ydec") .one (by walk_at "ydec") (fun _ _ => rfl) ?_
        refine wi_seq ?_
        walk_at "ys"
        refine ⟨_, _, ⟨rfl, rfl⟩, ?_⟩
        rw [S_cps]
        refine lc_flt (fun c => !decide (c ∈ ("abcdefghijklmnopqrstuvwxyz0123456789" : Str).cps.toList)) (fun c => .d (.str (S [c]))) hz (fun _ _ => trivial) (fun c M' hc hle => ?_) ?_
        · refine ⟨_, .one, ?_⟩
          rw [S_one]
          show WT _ _ _ _ _
          walk_at "ys"
          refine ⟨rfl, rfl, fun _ => ?_⟩
          walk_at "ys"
          exact ⟨rfl, rfl⟩
        · generalize hfl : l.filter (fun c => !decide (c ∈ ("abcdefghijklmnopqrstuvwxyz0123456789" : Str).cps.toList)) = fl
          refine .data' (fl.map fun c => .str (S [c])) (by rw [List.map_map]; rfl) ?_
          walk_at "ys"
          rw [List.length_map]
          refine br (fun h5 => ?_) (fun h5 => ?_)
          · have e4 : (l.all fun c => decide (c ∈ LET.cps.toList) || decide (c ∈ FIG.cps.toList)) = false := by
              rw [letfig] at hfl
              cases fl with
              | nil => simp at h5
              | cons a b =>
                have ha : a ∈ l.filter (fun c => !decide (c ∈ LET.cps.toList ++ FIG.cps.toList)) := by rw [hfl]; exact List.mem_cons_self
                rw [List.mem_filter] at ha
                rw [Bool.eq_false_iff]
                intro hall
                have := List.all_eq_true.mp hall a ha.1
                simp only [Bool.not_eq_true', decide_eq_false_iff_not, List.mem_append] at ha
                simp only [Bool.or_eq_true, decide_eq_true_eq] at this
                exact ha.2 this
            have e : fwL l = "sign" := by unfold fwL; rw [if_neg h4, if_pos e4]
            rw [e] at hq
            walk_at "ys"
            exact hq
          · have e4 : (l.all fun c => decide (c ∈ LET.cps.toList) || decide (c ∈ FIG.cps.toList)) = true := by
              rw [letfig] at hfl
              have hn : fl = [] := by cases fl with | nil => rfl | cons a b => exact absurd (by simp : (0 : Int) < (((a :: b).length : Nat) : Int)) h5
              rw [hn, List.filter_eq_nil_iff] at hfl
              refine List.all_eq_true.mpr fun c hc => ?_
              have h9 := hfl c hc
              rw [Bool.not_eq_true, Bool.not_eq_false'] at h9
              have h10 := List.mem_append.mp (of_decide_eq_true h9)
              rw [Bool.or_eq_true, decide_eq_true_eq, decide_eq_true_eq]
              exact h10
            walk_at "ys"
            obtain ⟨c0, t0, rfl⟩ : ∃ c0 t0, l = c0 :: t0 := by
              cases l with
              | nil => exact absurd (.inl rfl) h4
              | cons a b => exact ⟨a, b, rfl⟩
            refine ix_str hz (c := c0) (atI_nat (n := 0) rfl rfl) ?_
            walk_at "ys"
            refine br (fun h6 => ?_) (fun h6 => ?_)
            · have e : fwL (c0 :: t0) = "begin" := by unfold fwL; rw [if_neg h4, if_neg (by rw [e4]; decide), if_pos (by exact h6)]
              rw [e] at hq
              walk_at "ys"
              exact hq
            · walk_at "ys"
              refine ⟨rfl, ?_⟩
              refine oc_inSt (ys := OWNS) (.inr (.inl rfl)) ?_
              refine exB ?_
              cases e6 : inStr (S (c0 :: t0)) OWNS with
              | true =>
                have e : fwL (c0 :: t0) = "word" := by unfold fwL; rw [if_neg h4, if_neg (by rw [e4]; decide), if_neg (by exact h6), if_pos e6]
                rw [e] at hq
                refine brT rfl ?_
                walk_at "ys"
                exact hq
              | false =>
                have e : fwL (c0 :: t0) = Str.empty := by unfold fwL; rw [if_neg h4, if_neg (by rw [e4]; decide), if_neg (by exact h6), if_neg (by rw [e6]; decide)]
                rw [e] at hq
                refine brF rfl ?_
                walk_at "ys"
                exact hq
  · refine brT (by cases d <;> first | rfl | exact absurd rfl (hn _)) ?_
    rw [hs] at hq
    walk_at "ys"
    exact hq
end
section
variable {g : GD} {cF cB cS : Addr}
/-! ### _law_says -/
theorem fwL_dash (t : List Nat) : fwL (45 :: t) ≠ Str.empty := by
  unfold fwL
  by_cases h : (45 :: t).length = 0 ∨ 8 < (45 :: t).length
  · rw [if_pos h]; decide +kernel
  · rw [if_neg h]
    have e : ((45 :: t).all fun c => decide (c ∈ LET.cps.toList) || decide (c ∈ FIG.cps.toList)) = false := by
      rw [List.all_cons, show (decide (45 ∈ LET.cps.toList) || decide (45 ∈ FIG.cps.toList)) = false by decide +kernel, Bool.false_and]
    rw [if_pos e]; decide +kernel
theorem emptyS : ("" : Str) = Str.empty := by decide +kernel
abbrev sLSays : Stmt := top 22
theorem scLSays : FnScope ["thing"] ["thing"] (defScope sLSays) := ⟨rfl, rfl, rfl, by decide +kernel, rfl, by decide +kernel, by decide +kernel⟩
theorem ok_lsays {f : Addr} {fd : FuncData} (T : T0 g cF cB cS) (D1 : DefOk g 2 "_law_fault" "_law_fault" sLFault ["thing"] spLFault) (F : Fun g.K "_law_says" "_law_says" sLSays f fd) (hm : g.mg "_law_says" = some (.ref f)) (hb : L2.Binds g.K fd ["thing"] []) : DefOk g 4 "_law_says" "_law_says" sLSays ["thing"] spIsSaying := by
  refine def_ok F hm scLSays hb (fun ds M Q E ⟨d, e, _⟩ => by subst e; rfl) fun ds M Q E ⟨d, e, h1, hq⟩ => ?_
  subst e
  have t1 := T.isi
  have t2 := T.str
  walk_at "ys"
  refine isi_str h1.noD (exB ?_)
  rcases strOf d with ⟨l, rfl⟩ | ⟨hn, hs⟩
  · refine brF rfl ?_
    have hl := okStr h1
    have hz : l.length ≤ sizeLine := lt_big (by omega)
    have eq : sayB (.str (S l)) = sayL l := by show sayL (S l).cps.toList = _; rw [S_cps]
    rw [eq] at hq
    walk_at "ys"
    refine ⟨_, rfl, h1, ?_⟩
    rw [fw_str]
    rw [emptyS]
    walk_at "ys"
    refine br (fun h => ?_) (fun h => ?_)
    · have e : sayL l = true := by
        unfold sayL
        split
        · exact absurd h (fwL_dash _)
        · exact decide_eq_true h
      rw [e] at hq
      exact hq
    · walk_at "ys"
      rw [show (some (1 : Int)) = some ((1 : Nat) : Int) from rfl, cutL_to]
      rw [dash]
      walk_at "ys"
      refine br (fun h2 => ?_) (fun h2 => ?_)
      · have h2 := S_inj.mp h2
        obtain ⟨t, rfl⟩ : ∃ t, l = 45 :: t := by
          cases l with
          | nil => cases h2
          | cons a b => exact ⟨b, by cases h2; rfl⟩
        walk_at "ys"
        rw [show (some (1 : Int)) = some ((1 : Nat) : Int) from rfl, cutL_from]
        refine ⟨.str (S t), rfl, okThing_S (by simp at hl; omega), ?_⟩
        rw [fw_str]
        walk_at "ys"
        exact hq
      · have e : sayL l = false := by
          unfold sayL
          split
          · exact absurd (S_inj.mpr rfl) h2
          · exact decide_eq_false h
        rw [e] at hq
        walk_at "ys"
        exact hq
  · refine brT (by cases d <;> first | rfl | exact absurd rfl (hn _)) ?_
    have e : sayB d = false := by cases d <;> first | rfl | exact absurd rfl (hn _)
    rw [e] at hq
    walk_at "ys"
    exact hq
/-! ### _law_name -/
def LOW : List Nat := (List.range 26).map (· + 97)
def ABC : List Nat := LOW ++ (List.range 10).map (· + 48)
theorem low_at {r : Int} (h0 : 0 ≤ r) (hr : r < 26) : ∃ c, atI LOW r = some c ∧ c ≠ 45 := by
  obtain ⟨k, rfl⟩ : ∃ k : Nat, r = (k : Int) := ⟨r.toNat, by omega⟩
  have hk : k < 26 := by omega
  refine ⟨k + 97, atI_nat rfl ?_, by omega⟩
  unfold LOW
  rw [List.getElem?_map, List.getElem?_range hk]
  rfl
theorem abc_at {r : Int} (h0 : 0 ≤ r) (hr : r < 36) : ∃ c, atI ABC r = some c := by
  obtain ⟨k, rfl⟩ : ∃ k : Nat, r = (k : Int) := ⟨r.toNat, by omega⟩
  have hk : k < ABC.length := by show k < 36; omega
  exact ⟨_, atI_nat rfl (List.getElem?_eq_getElem hk)⟩
theorem laps_at {r : Int} (h0 : 0 ≤ r) (hr : r < 6) : ∃ m : Int, atI [PyData.int 0, .int 1, .int 2, .int 4, .int 7, .int 7] r = some (.int m) ∧ 0 ≤ m ∧ m ≤ 7 := by
  obtain ⟨k, rfl⟩ : ∃ k : Nat, r = (k : Int) := ⟨r.toNat, by omega⟩
  have hk : k < 6 := by omega
  match k, hk with
  | 0, _ => exact ⟨0, rfl, by omega⟩
  | 1, _ => exact ⟨1, rfl, by omega⟩
  | 2, _ => exact ⟨2, rfl, by omega⟩
  | 3, _ => exact ⟨4, rfl, by omega⟩
  | 4, _ => exact ⟨7, rfl, by omega⟩
  | 5, _ => exact ⟨7, rfl, by omega⟩
abbrev sName : Stmt := top 23
theorem scName : FnScope ["well", "letters", "signs", "told", "lap"] ["well"] (defScope sName) := ⟨rfl, rfl, rfl, by decide +kernel, rfl, by decide +kernel, by decide +kernel⟩
def nmOk (l : List Nat) : Prop := ∃ c t, l = c :: t ∧ c ≠ 45 ∧ t.length ≤ 8
def spName : SpD := fun ds M Q E => ∃ w n, ds = [.r w] ∧ WellAt n M w ∧ n < 2 ^ 50 ∧ ∀ M' c t, WellAt (n + 9) M' w → c ≠ 45 → t.length ≤ 8 → Q (.d (.str (S (c :: t)))) M'
theorem WellAt.mono {n m : Int} {M : MS} {w : Addr} (h : WellAt n M w) (l : n ≤ m) : WellAt m M w := let ⟨d, xs, mud, t, a, b, c, e, f, k⟩ := h; ⟨d, xs, mud, t, a, b, c, e, f, by omega⟩
theorem ok_name {f : Addr} {fd : FuncData} (T : T0 g cF cB cS) (D1 : DefOk g 1 "_law_bucket" "_law_bucket" sBucket ["well", "many"] spBucket) (D2 : DefOk g 1 "_law_words" "_law_words" sWords [] spWords) (F : Fun g.K "_law_name" "_law_name" sName f fd) (hm : g.mg "_law_name" = some (.ref f)) (hb : L2.Binds g.K fd ["well"] []) : DefOk g 2 "_law_name" "_law_name" sName ["well"] spName := by
  refine def_ok F hm scName hb (fun ds M Q E ⟨w, n, e, _⟩ => by subst e; rfl) fun ds M Q E ⟨w, n, e, hw, hn, hq⟩ => ?_
  subst e
  have t1 := T.range
  walk_at "ys"
  refine od_addS (by rw [sizeLine_eq]; decide +kernel) ?_
  rw [show (("abcdefghijklmnopqrstuvwxyz" : Str) ++ "0123456789") = S ABC from by decide +kernel, show ("abcdefghijklmnopqrstuvwxyz" : Str) = S LOW from by decide +kernel]
  walk_at "ys"
  refine ⟨w, 26, n, rfl, hw, by decide, by omega, fun M1 r hw1 h0 hr => ?_⟩
  have hr := hr (by decide)
  obtain ⟨c, hc, hc1⟩ := low_at h0 hr
  refine ix_str (by rw [sizeLine_eq]; decide) hc ?_
  walk_at "ys"
  refine ws_for rfl (fun _ _ => rfl) ?_
  refine wi_range1 t1 (by walk_at "ydec") (fun _ => rfl) ?_
  walk_at "ys"
  refine tupU (by decide) rfl ?_
  walk_at "ys"
  refine ⟨w, 6, n + 1, rfl, hw1, by decide, by omega, fun M2 r2 hw2 h02 hr2 => ?_⟩
  have hr2 := hr2 (by decide)
  obtain ⟨m, hm1, hm2, hm3⟩ := laps_at h02 hr2
  refine ⟨_, ⟨_, hm1, rfl⟩, ?_⟩
  refine ⟨m, rfl, by omega, by omega, ?_⟩
  refine ⟨fun i ρ' M' => ∃ (t : List Nat) (o : Option D), ρ' = ([("well", some (D.r w)), ("letters", some (D.d (.str (S LOW)))), ("signs", some (D.d (.str (S ABC)))), ("told", some (D.d (.str (S (c :: t))))), ("lap", o)] : Rho) ∧ t.length = i ∧ WellAt (n + 2 + i) M' w, ⟨[], _, rfl, rfl, by rw [show n + 2 + ((0 : Nat) : Int) = n + 1 + 1 by omega]; exact hw2⟩, fun _ _ _ _ => trivial, ?_, ?_⟩
  · rintro i d ρ' M' hd ⟨t, o, rfl, hi, hw3⟩
    have hi7 : i < 7 := by
      have := (List.getElem?_eq_some_iff.mp hd).1
      rw [List.length_map, List.length_range] at this
      omega
    walk_at "ys"
    refine ⟨w, 36, _, rfl, hw3, by decide, by omega, fun M4 r4 hw4 h04 hr4 => ?_⟩
    have hr4 := hr4 (by decide)
    obtain ⟨c4, hc4⟩ := abc_at h04 hr4
    refine ix_str (by rw [sizeLine_eq]; decide) hc4 ?_
    refine od_addSL (by rw [sizeLine_eq]; simp; omega) ?_
    walk_at "ys"
    exact ⟨t ++ [c4], _, rfl, by rw [List.length_append, hi]; rfl, by rw [show n + 2 + ((i + 1 : Nat) : Int) = n + 2 + (i : Int) + 1 by omega]; exact hw4⟩
  · rintro ρ' M' ⟨t, o, rfl, hi, hw3⟩
    have hi7 : t.length ≤ 7 := by
      rw [List.length_map, List.length_range] at hi
      omega
    have hw5 : WellAt (n + 9) M' w := hw3.mono (by rw [List.length_map, List.length_range]; omega)
    walk_at "ys"
    refine ⟨rfl, ?_⟩
    refine oc_inSt (ys := OWNS) (.inr (.inl rfl)) (exB ?_)
    refine brB (fun h => ?_) (fun h => ?_)
    · walk_at "ys"
      rw [show ("0" : Str) = S [48] from by decide +kernel]
      refine od_addSL (by rw [sizeLine_eq]; simp; omega) ?_
      exact hq M' c (t ++ [48]) hw5 hc1 (by simp; omega)
    · walk_at "ys"
      exact hq M' c t hw5 hc1 (by omega)
end
section
variable {g : GD} {cF cB cS : Addr}
/-! ### _law_signs, _law_strings -/
abbrev sSigns : Stmt := top 24
theorem scSigns : FnScope ["told"] [] (defScope sSigns) := ⟨rfl, rfl, rfl, by decide +kernel, rfl, by decide +kernel, by decide +kernel⟩
def SGN : Str := " !\"#$&'()*+,-./0123456789:;<=>?@ABCDEFGHIJKLMNOPQRSTUVWXYZ[\\]^_`abcdefghijklmnopqrstuvwxyz{|}~\n"
def spSigns : SpD := fun ds M Q E => ds = [] ∧ Q (.d (.str SGN)) M
theorem ok_signs {f : Addr} {fd : FuncData} (F : Fun g.K "_law_signs" "_law_signs" sSigns f fd) (hm : g.mg "_law_signs" = some (.ref f)) (hb : L2.Binds g.K fd [] []) : DefOk g 1 "_law_signs" "_law_signs" sSigns [] spSigns := by
  refine def_ok F hm scSigns hb (fun ds M Q E ⟨e, _⟩ => by subst e; rfl) fun ds M Q E ⟨e, hq⟩ => ?_
  subst e
  walk_at "ys"
  exact hq
abbrev sStrings : Stmt := top 25
theorem scStrings : FnScope ["well", "name", "word", "signs", "sign", "at", "place", "told"] ["well", "name"] (defScope sStrings) := ⟨rfl, rfl, rfl, by decide +kernel, rfl, by decide +kernel, by decide +kernel⟩
def thOk (xs : List PyData) : Prop := ∀ x ∈ xs, okThing x
def spStrings : SpD := fun ds M Q E => ∃ w n c t, ds = [.r w, .d (.str (S (c :: t)))] ∧ WellAt n M w ∧ n < 2 ^ 50 ∧ t.length ≤ 8 ∧ ∀ M' xs, WellAt (n + 4) M' w → thOk xs → 1 ≤ xs.length → xs.length ≤ 100 → Q (.d (.list xs)) M'
theorem own_at {r : Int} (h0 : 0 ≤ r) (hr : r < 25) : ∃ s : Str, atI (OWNS.map PyData.str) r = some (.str s) ∧ 1 ≤ s.length ∧ s.length ≤ 8 := by
  obtain ⟨k, rfl⟩ : ∃ k : Nat, r = (k : Int) := ⟨r.toNat, by omega⟩
  have hk : k < OWNS.length := by show k < 25; omega
  have hall : ∀ s ∈ OWNS, 1 ≤ s.length ∧ s.length ≤ 8 := by decide +kernel
  refine ⟨OWNS[k], atI_nat rfl ?_, hall _ (List.getElem_mem hk)⟩
  rw [List.getElem?_map, List.getElem?_eq_getElem hk]
  rfl
theorem k1 : ("-" : Str).length = 1 := by decide +kernel
theorem k2 : ("--" : Str).length = 2 := by decide +kernel
theorem k3 : ("- " : Str).length = 2 := by decide +kernel
theorem k4 : ("+" : Str).length = 1 := by decide +kernel
theorem k5 : ("9" : Str).length = 1 := by decide +kernel
theorem k6 : ("0" : Str).length = 1 := by decide +kernel
theorem k7 : ("7A" : Str).length = 2 := by decide +kernel
theorem k8 : ("a" : Str).length = 1 := by decide +kernel
theorem k9 : ("aaaaaaaa" : Str).length = 8 := by decide +kernel
theorem k10 : ("zzzzzzzz" : Str).length = 8 := by decide +kernel
theorem kS : SGN.length = 95 := by decide +kernel
local macro_rules | `(tactic| walk_at "ylen2") => `(tactic| first | omega | (simp only [sizeLine_eq, len_app, len_cutS, S_len, List.length_cons, List.length_nil, k1, k2, k3, k4, k5, k6, k7, k8, k9, k10, kS]; omega))
theorem thOk_nil : thOk [] := fun _ h => nomatch h
theorem thOk_cons {x : PyData} {r : List PyData} (h : okThing x) (t : thOk r) : thOk (x :: r) := fun y hy => by
  rcases List.mem_cons.mp hy with rfl | hy
  · exact h
  · exact t y hy
theorem thOk_app {x r : List PyData} (h : thOk x) (t : thOk r) : thOk (x ++ r) := fun y hy => (List.mem_append.mp hy).elim (h y) (t y)
theorem ok_strings {f : Addr} {fd : FuncData} (T : T0 g cF cB cS) (D1 : DefOk g 1 "_law_bucket" "_law_bucket" sBucket ["well", "many"] spBucket) (D2 : DefOk g 1 "_law_words" "_law_words" sWords [] spWords) (D3 : DefOk g 1 "_law_signs" "_law_signs" sSigns [] spSigns) (F : Fun g.K "_law_strings" "_law_strings" sStrings f fd) (hm : g.mg "_law_strings" = some (.ref f)) (hb : L2.Binds g.K fd ["well", "name"] []) : DefOk g 2 "_law_strings" "_law_strings" sStrings ["well", "name"] spStrings := by
  refine def_ok F hm scStrings hb (fun ds M Q E ⟨w, n, c, t, e, _⟩ => by subst e; rfl) fun ds M Q E ⟨w, n, c, t, e, hw, hn, ht, hq⟩ => ?_
  subst e
  have t1 := T.len
  obtain ⟨nm, hnm⟩ : ∃ nm, S (c :: t) = nm := ⟨_, rfl⟩
  have hlen : nm.length ≤ 9 := by rw [← hnm, S_len]; simp; omega
  have hlen1 : 1 ≤ nm.length := by rw [← hnm, S_len]; simp
  rw [hnm]
  walk_at "ys"
  refine ⟨rfl, ?_⟩
  walk_at "ys"
  refine ⟨w, 25, n, rfl, hw, by decide, by omega, fun M1 r1 hw1 h01 hr1 => ?_⟩
  obtain ⟨wd, hwd, hwd1, hwd2⟩ := own_at h01 (hr1 (by decide))
  refine ix_lst hwd ?_
  walk_at "ys"
  refine ⟨rfl, ?_⟩
  walk_at "ys"
  refine ⟨w, _, n + 1, rfl, hw1, by rw [kS]; decide, by omega, fun M2 r2 hw2 h02 hr2 => ?_⟩
  have hr2 := hr2 (by rw [kS]; decide)
  obtain ⟨c2, hc2⟩ : ∃ c2, atI SGN.cps.toList r2 = some c2 := by
    obtain ⟨k, rfl⟩ : ∃ k : Nat, r2 = (k : Int) := ⟨r2.toNat, by omega⟩
    have hk : k < SGN.cps.toList.length := by
      have : SGN.cps.toList.length = SGN.length := by rw [Array.length_toList]; rfl
      omega
    exact ⟨_, atI_nat rfl (List.getElem?_eq_getElem hk)⟩
  rw [show (D.d (.str SGN)) = D.d (.str (S SGN.cps.toList)) by rw [S_self]]
  refine ix_str (by rw [Array.length_toList]; show SGN.length ≤ _; rw [kS, sizeLine_eq]; decide) hc2 ?_
  walk_at "ys"
  refine ⟨w, _, n + 2, rfl, by rw [show n + 2 = n + 1 + 1 by omega]; exact hw2, by omega, by omega, fun M3 r3 hw3 h03 hr3 => ?_⟩
  walk_at "ys"
  refine ⟨w, _, n + 3, rfl, by rw [show n + 3 = n + 2 + 1 by omega]; exact hw3, by omega, by omega, fun M4 r4 hw4 h04 hr4 => ?_⟩
  walk_at "ys"
  refine lstU (by exact Nat.le_of_ble_eq_true rfl) rfl ?_
  walk_at "ys"
  refine lstU (by exact Nat.le_of_ble_eq_true rfl) rfl ?_
  refine od_catDD (by rw [sizeLine_eq]; exact Nat.le_of_ble_eq_true rfl) ?_
  walk_at "ys"
  refine lstU (by exact Nat.le_of_ble_eq_true rfl) rfl ?_
  refine od_catDD (by rw [sizeLine_eq]; exact Nat.le_of_ble_eq_true rfl) ?_
  walk_at "ys"
  refine lstU (by exact Nat.le_of_ble_eq_true rfl) rfl ?_
  refine od_catDD (by rw [sizeLine_eq]; exact Nat.le_of_ble_eq_true rfl) ?_
  walk_at "ys"
  refine lstU (by exact Nat.le_of_ble_eq_true rfl) rfl ?_
  refine od_catDD (by rw [sizeLine_eq]; exact Nat.le_of_ble_eq_true rfl) ?_
  refine hq _ _ (by rw [show n + 4 = n + 3 + 1 by omega]; exact hw4) ?_ (by exact Nat.le_of_ble_eq_true rfl) (by exact Nat.le_of_ble_eq_true rfl)
  refine thOk_app (thOk_app (thOk_app (thOk_app ?_ ?_) ?_) ?_) ?_
  all_goals
    simp only [undD]
    repeat (first | exact thOk_nil | refine thOk_cons (show Str.length _ ≤ 5000 from by first | walk_at "ylen2" | decide +kernel) ?_)
end
section
variable {g : GD} {cF cB cS : Addr}
local macro_rules | `(tactic| walk_at "yu") => `(tactic| repeat (first | refine lstU (by exact Nat.le_of_ble_eq_true rfl) rfl ?_ | refine tupU (by exact Nat.le_of_ble_eq_true rfl) rfl ?_ | walk_at "y"))
/-! ### _law_things -/
abbrev sThings : Stmt := top 26
theorem scThings : FnScope ["well", "name", "number", "told"] ["well", "name"] (defScope sThings) := ⟨rfl, rfl, rfl, by decide +kernel, rfl, by decide +kernel, by decide +kernel⟩
def spThings : SpD := fun ds M Q E => ∃ w n c t, ds = [.r w, .d (.str (S (c :: t)))] ∧ WellAt n M w ∧ n < 2 ^ 50 ∧ t.length ≤ 8 ∧ ∀ M' xs, WellAt (n + 1) M' w → thOk xs → xs.length = 14 → Q (.d (.list xs)) M'
theorem num_at {r : Int} {a b c d e f : Int} (h0 : 0 ≤ r) (hr : r < 6) : ∃ m : Int, atI [PyData.int a, .int b, .int c, .int d, .int e, .int f] r = some (.int m) := by
  obtain ⟨k, rfl⟩ : ∃ k : Nat, r = (k : Int) := ⟨r.toNat, by omega⟩
  have hk : k < 6 := by omega
  match k, hk with
  | 0, _ => exact ⟨_, rfl⟩
  | 1, _ => exact ⟨_, rfl⟩
  | 2, _ => exact ⟨_, rfl⟩
  | 3, _ => exact ⟨_, rfl⟩
  | 4, _ => exact ⟨_, rfl⟩
  | 5, _ => exact ⟨_, rfl⟩
theorem ok_things {f : Addr} {fd : FuncData} (T : T0 g cF cB cS) (D1 : DefOk g 1 "_law_bucket" "_law_bucket" sBucket ["well", "many"] spBucket) (F : Fun g.K "_law_things" "_law_things" sThings f fd) (hm : g.mg "_law_things" = some (.ref f)) (hb : L2.Binds g.K fd ["well", "name"] []) : DefOk g 2 "_law_things" "_law_things" sThings ["well", "name"] spThings := by
  refine def_ok F hm scThings hb (fun ds M Q E ⟨w, n, c, t, e, _⟩ => by subst e; rfl) fun ds M Q E ⟨w, n, c, t, e, hw, hn, ht, hq⟩ => ?_
  subst e
  have t1 := T.list
  have t2 := T.tuple
  have hz : (c :: t).length ≤ sizeLine := lt_big (by simp; omega)
  walk_at "ys"
  refine tupU (by exact Nat.le_of_ble_eq_true rfl) rfl ?_
  walk_at "ys"
  refine ⟨w, 6, n, rfl, hw, by decide, by omega, fun M1 r1 hw1 h01 hr1 => ?_⟩
  obtain ⟨m, hm1⟩ := num_at h01 (hr1 (by decide))
  refine ix_tup hm1 ?_
  walk_at "yu"
  refine ca_listS rfl (by rw [S_len]; exact hz) (.data' ((S (c :: t)).cps.toList.map fun c => .str ⟨#[c]⟩) (by rw [List.map_map]; rfl) ?_)
  walk_at "yu"
  refine ca_listS rfl (by rw [S_len]; exact hz) (.data' ((S (c :: t)).cps.toList.map fun c => .str ⟨#[c]⟩) (by rw [List.map_map]; rfl) ?_)
  walk_at "yu"
  refine ca_tupL (.inl ⟨_, rfl, rfl⟩) rfl ?_
  walk_at "yu"
  refine hq M1 _ hw1 ?_ rfl
  intro x hx
  simp only [undD, List.mem_cons, List.not_mem_nil, or_false] at hx
  rcases hx with rfl | rfl | rfl | rfl | rfl | rfl | rfl | rfl | rfl | rfl | rfl | rfl | rfl | rfl <;> exact True.intro
/-! ### _law_heard -/
abbrev sHeard : Stmt := top 27
theorem scHeard : FnScope ["thing", "way", "told", "error"] ["thing", "way"] (defScope sHeard) := ⟨rfl, rfl, rfl, by decide +kernel, rfl, by decide +kernel, by decide +kernel⟩
def spHeard : SpD := fun ds M Q E => ∃ d way, ds = [.d d, .d (.int way)] ∧ okThing d ∧ ((∃ l, d = .str (S l) ∧ fwL l = Str.empty ∧ Q (.d (.tuple [.str "told", .int (l.length : Int)])) M) ∨ (fw d ≠ Str.empty ∧ Q (.d (.tuple [.str "refused", .str (fw d)])) M))
theorem ok_heard {f : Addr} {fd : FuncData} (T : T0 g cF cB cS) (D1 : DefOk g 3 "check_name" "check_name" sCheck ["thing"] (spCheck cB)) (F : Fun g.K "_law_heard" "_law_heard" sHeard f fd) (hm : g.mg "_law_heard" = some (.ref f)) (hb : L2.Binds g.K fd ["thing", "way"] []) : DefOk g 4 "_law_heard" "_law_heard" sHeard ["thing", "way"] spHeard := by
  refine def_ok F hm scHeard hb (fun ds M Q E ⟨d, way, e, _⟩ => by subst e; rfl) fun ds M Q E ⟨d, way, e, h1, hq⟩ => ?_
  subst e
  have t1 := T.isi
  have t2 := T.verr
  have t3 := T.mF
  have t4 := T.mS
  walk_at "ys"
  refine ws_try rfl ?_
  walk_at "ys"
  refine br (fun hw => ?_) (fun hw => ?_)
  · walk_at "ys"
    refine ⟨d, rfl, h1, ?_⟩
    rcases hq with ⟨l, rfl, h2, hq⟩ | ⟨h2, hq⟩
    · refine .inl ⟨l, rfl, h2, ?_⟩
      walk_at "yu"
      exact hq
    · refine .inr ⟨h2, ?_⟩
      refine ⟨.ref cB, true, ⟨by walk_at "ydec", .inl T.bad.mgx⟩, T.exm, ?_⟩
      refine brT rfl ⟨⟨by walk_at "ydec", by walk_at "ydec"⟩, fun a => ?_⟩
      walk_at "yu"
      refine .inr ⟨a, cB, _, ["word"], true, rfl, rfl, T.badf, T.kF, exB ?_⟩
      refine brF rfl ?_
      walk_at "yu"
      refine .inr ⟨a, cB, _, ["word"], true, rfl, rfl, T.badf, T.kV, exB ?_⟩
      refine brF rfl ?_
      walk_at "yu"
      refine .inr ⟨a, cB, _, ["word"], false, rfl, rfl, T.badf, T.kS, exB ?_⟩
      refine brF rfl ?_
      walk_at "yu"
      refine we_xf rfl T.badf List.mem_cons_self (fun _ => rfl) ?_
      walk_at "ys"
      refine ⟨rfl, _, rfl, ?_⟩
      walk_at "yu"
      exact hq
  · refine we_callK (ks := ["thing"]) (gl := id) (gV := id) (gD := id) D1 (Nat.le_of_ble_eq_true rfl) rfl (by walk_at "ydec") (fun _ _ _ _ _ _ ws hl => match ws, hl with | [_], _ => rfl) (fun r => r) (fun r => r) (fun _ => rfl) (fun _ => rfl) (fun _ => rfl) ?_
    refine wk_cons ?_
    walk_at "ys"
    refine wk_nil ?_
    refine ⟨d, rfl, h1, ?_⟩
    rcases hq with ⟨l, rfl, h2, hq⟩ | ⟨h2, hq⟩
    · refine .inl ⟨l, rfl, h2, ?_⟩
      walk_at "yu"
      exact hq
    · refine .inr ⟨h2, ?_⟩
      refine ⟨.ref cB, true, ⟨by walk_at "ydec", .inl T.bad.mgx⟩, T.exm, ?_⟩
      refine brT rfl ⟨⟨by walk_at "ydec", by walk_at "ydec"⟩, fun a => ?_⟩
      walk_at "yu"
      refine .inr ⟨a, cB, _, ["word"], true, rfl, rfl, T.badf, T.kF, exB ?_⟩
      refine brF rfl ?_
      walk_at "yu"
      refine .inr ⟨a, cB, _, ["word"], true, rfl, rfl, T.badf, T.kV, exB ?_⟩
      refine brF rfl ?_
      walk_at "yu"
      refine .inr ⟨a, cB, _, ["word"], false, rfl, rfl, T.badf, T.kS, exB ?_⟩
      refine brF rfl ?_
      walk_at "yu"
      refine we_xf rfl T.badf List.mem_cons_self (fun _ => rfl) ?_
      walk_at "ys"
      refine ⟨rfl, _, rfl, ?_⟩
      walk_at "yu"
      exact hq
/-! ### _law_asked -/
abbrev sAsked : Stmt := top 28
theorem scAsked : FnScope ["well", "thing", "due", "way", "kind", "told", "says"] ["well", "thing"] (defScope sAsked) := ⟨rfl, rfl, rfl, by decide +kernel, rfl, by decide +kernel, by decide +kernel⟩
def spAsked : SpD := fun ds M Q E => ∃ w n d, ds = [.r w, .d d] ∧ WellAt n M w ∧ n < 2 ^ 55 ∧ okThing d ∧ ∀ M', WellAt (n + 1) M' w → Q (.d (.bool true)) M'
theorem ok_asked {f : Addr} {fd : FuncData} (T : T0 g cF cB cS) (D1 : DefOk g 1 "_law_bucket" "_law_bucket" sBucket ["well", "many"] spBucket) (D2 : DefOk g 2 "_law_fault" "_law_fault" sLFault ["thing"] spLFault) (D3 : DefOk g 4 "_law_heard" "_law_heard" sHeard ["thing", "way"] spHeard) (D4 : DefOk g 5 "is_saying" "is_saying" sIsSaying ["thing"] spIsSaying) (D5 : DefOk g 4 "_law_says" "_law_says" sLSays ["thing"] spIsSaying)
    (F : Fun g.K "_law_asked" "_law_asked" sAsked f fd) (hm : g.mg "_law_asked" = some (.ref f)) (hb : L2.Binds g.K fd ["well", "thing"] []) : DefOk g 6 "_law_asked" "_law_asked" sAsked ["well", "thing"] spAsked := by
  refine def_ok F hm scAsked hb (fun ds M Q E ⟨w, n, d, e, _⟩ => by subst e; rfl) fun ds M Q E ⟨w, n, d, e, hw, hn, h1, hq⟩ => ?_
  subst e
  have t1 := T.isi
  have t2 := T.str
  have t3 := T.int
  have t4 := T.len
  have t5 := T.bool
  walk_at "ys"
  refine ⟨d, rfl, h1, ?_⟩
  walk_at "ys"
  refine ⟨w, 2, n, rfl, hw, by decide, by omega, fun M1 r1 hw1 h01 hr1 => ?_⟩
  walk_at "ys"
  refine ⟨d, r1, rfl, h1, ?_⟩
  by_cases h2 : fw d = Str.empty
  · obtain ⟨l, hd⟩ : ∃ l, d = .str (S l) := by
      rcases strOf d with h | ⟨_, h⟩
      · exact h
      · rw [h] at h2; exact absurd h2 shape_ne
    have hz : l.length ≤ sizeLine := by
      rw [hd] at h1
      exact lt_big (by have := okStr h1; omega)
    refine .inl ⟨l, hd, by rw [← fw_str, ← hd]; exact h2, ?_⟩
    walk_at "ys"
    rw [emptyS]
    walk_at "ys"
    refine brT (decide_eq_true h2) ?_
    walk_at "ys"
    refine .inl ⟨"int", true, rfl, kit_ty (by decide +kernel), exB ?_⟩
    refine brF rfl ?_
    walk_at "ys"
    refine .inl ⟨"int", false, rfl, kit_ty (by decide +kernel), exB ?_⟩
    refine brF rfl ?_
    walk_at "ys"
    rw [hd]
    walk_at "ys"
    refine brN (fun h => absurd rfl h) (fun _ => ?_)
    rw [← hd]
    walk_at "ys"
    refine br (fun h9 => ?_) (fun h9 => ?_)
    · walk_at "ys"
      refine ⟨d, rfl, h1, ?_⟩
      walk_at "ys"
      refine .inl ⟨"bool", true, rfl, kit_ty (by decide +kernel), exB ?_⟩
      refine brT rfl ?_
      walk_at "ys"
      refine ⟨d, rfl, h1, ?_⟩
      walk_at "ys"
      rw [beq_self_eq_true]
      exact hq M1 hw1
    · refine we_callK (ks := ["thing"]) (gl := id) (gV := id) (gD := id) D4 (Nat.le_of_ble_eq_true rfl) rfl (by walk_at "ydec") (fun _ _ _ _ _ _ ws hl => match ws, hl with | [_], _ => rfl) (fun r => r) (fun r => r) (fun _ => rfl) (fun _ => rfl) (fun _ => rfl) ?_
      refine wk_cons ?_
      walk_at "ys"
      refine wk_nil ?_
      refine ⟨d, rfl, h1, ?_⟩
      walk_at "ys"
      refine .inl ⟨"bool", true, rfl, kit_ty (by decide +kernel), exB ?_⟩
      refine brT rfl ?_
      walk_at "ys"
      refine ⟨d, rfl, h1, ?_⟩
      walk_at "ys"
      rw [beq_self_eq_true]
      exact hq M1 hw1
  · refine .inr ⟨h2, ?_⟩
    walk_at "ys"
    rw [emptyS]
    walk_at "ys"
    refine brF (decide_eq_false h2) ?_
    walk_at "ys"
    refine .inl ⟨"str", true, rfl, kit_ty (by decide +kernel), exB ?_⟩
    refine brF rfl ?_
    walk_at "ys"
    refine brN (fun h => absurd rfl h) (fun _ => ?_)
    walk_at "ys"
    refine br (fun h9 => ?_) (fun h9 => ?_)
    · walk_at "ys"
      refine ⟨d, rfl, h1, ?_⟩
      walk_at "ys"
      refine .inl ⟨"bool", true, rfl, kit_ty (by decide +kernel), exB ?_⟩
      refine brT rfl ?_
      walk_at "ys"
      refine ⟨d, rfl, h1, ?_⟩
      walk_at "ys"
      rw [beq_self_eq_true]
      exact hq M1 hw1
    · refine we_callK (ks := ["thing"]) (gl := id) (gV := id) (gD := id) D4 (Nat.le_of_ble_eq_true rfl) rfl (by walk_at "ydec") (fun _ _ _ _ _ _ ws hl => match ws, hl with | [_], _ => rfl) (fun r => r) (fun r => r) (fun _ => rfl) (fun _ => rfl) (fun _ => rfl) ?_
      refine wk_cons ?_
      walk_at "ys"
      refine wk_nil ?_
      refine ⟨d, rfl, h1, ?_⟩
      walk_at "ys"
      refine .inl ⟨"bool", true, rfl, kit_ty (by decide +kernel), exB ?_⟩
      refine brT rfl ?_
      walk_at "ys"
      refine ⟨d, rfl, h1, ?_⟩
      walk_at "ys"
      rw [beq_self_eq_true]
      exact hq M1 hw1
end
section
variable {g : GD} {cF cB cS : Addr}
abbrev sIs : Stmt := top 29
theorem scIs : FnScope ["told", "due"] ["told", "due"] (defScope sIs) := ⟨rfl, rfl, rfl, by decide +kernel, rfl, by decide +kernel, by decide +kernel⟩
def spIs : SpD := fun ds M Q E => ∃ a b : List Nat, ds = [.d (.str (S a)), .d (.str (S b))] ∧ Q (.d (.bool (decide (a = b)))) M
theorem ok_is {f : Addr} {fd : FuncData} (T : T0 g cF cB cS) (F : Fun g.K "_law_is" "_law_is" sIs f fd) (hm : g.mg "_law_is" = some (.ref f)) (hb : L2.Binds g.K fd ["told", "due"] []) : DefOk g 1 "_law_is" "_law_is" sIs ["told", "due"] spIs := by
  refine def_ok F hm scIs hb (fun ds M Q E ⟨a, b, e, _⟩ => by subst e; rfl) fun ds M Q E ⟨a, b, e, hq⟩ => ?_
  subst e
  have t1 := T.isi
  have t2 := T.str
  walk_at "ys"
  refine .inl ⟨"str", true, rfl, kit_ty (by decide +kernel), exB ?_⟩
  refine brT rfl ?_
  refine we_one (we_cmp rfl ?_)
  refine we_name (d := .d (.str (S a))) rfl (by walk_at "ydec") (we_name (d := .d (.str (S b))) rfl (by walk_at "ydec") ?_)
  exact oc_eqSL hq
abbrev sTurned : Stmt := top 30
theorem scTurned : FnScope ["well", "name", "other", "told", "yes", "due", "at"] ["well", "name"] (defScope sTurned) := ⟨rfl, rfl, rfl, by decide +kernel, rfl, by decide +kernel, by decide +kernel⟩
def spTurned : SpD := fun ds M Q E => ∃ w n c t, ds = [.r w, .d (.str (S (c :: t)))] ∧ WellAt n M w ∧ n < 2 ^ 55 ∧ c ≠ 45 ∧ t.length ≤ 20 ∧ ∀ M', WellAt (n + 1) M' w → Q (.d (.bool true)) M'
theorem ok_turned {f : Addr} {fd : FuncData} (T : T0 g cF cB cS) (D1 : DefOk g 1 "_law_bucket" "_law_bucket" sBucket ["well", "many"] spBucket) (D2 : DefOk g 1 "_law_is" "_law_is" sIs ["told", "due"] spIs) (D3 : DefOk g 1 "contrary" "contrary" sContrary ["saying"] spContrary) (D4 : DefOk g 1 "sign_of" "sign_of" sSignOf ["saying"] spSignOf) (D5 : DefOk g 1 "is_yes" "is_yes" sIsYes ["saying"] spIsYes)
    (F : Fun g.K "_law_turned" "_law_turned" sTurned f fd) (hm : g.mg "_law_turned" = some (.ref f)) (hb : L2.Binds g.K fd ["well", "name"] []) : DefOk g 2 "_law_turned" "_law_turned" sTurned ["well", "name"] spTurned := by
  refine def_ok F hm scTurned hb (fun ds M Q E ⟨w, n, c, t, e, _⟩ => by subst e; rfl) fun ds M Q E ⟨w, n, c, t, e, hw, hn, hc, ht, hq⟩ => ?_
  subst e
  have t1 := T.len
  have t2 := T.range
  have e1 : contraryL (c :: t) = 45 :: c :: t := if_neg hc
  have e2 : contraryL (45 :: c :: t) = c :: t := by simp [contraryL]
  have e3 : signOfL (c :: t) = c :: t := if_neg hc
  have e4 : signOfL (45 :: c :: t) = c :: t := by simp [signOfL]
  have e5 : (!decide (c = 45)) = true := by rw [decide_eq_false hc]; rfl
  have l1 : t.length ≤ 5000 := by omega
  have l2 : (c :: t).length ≤ 5000 := by simp; omega
  refine wss_cons ?_
  rw [dash]
  walk_at "ys"
  refine ⟨w, 2, n, rfl, hw, by decide, by omega, fun M1 r1 hw1 h01 hr1 => ?_⟩
  walk_at "ys"
  refine br (fun h => ?_) (fun h => ?_)
  · walk_at "ys"
    refine ⟨c, t, rfl, l1, ?_⟩
    rw [e1]
    walk_at "ys"
    refine ⟨45, c :: t, rfl, l2, ?_⟩
    rw [e2]
    walk_at "ys"
    refine ⟨c, t, rfl, l1, ?_⟩
    rw [e3]
    walk_at "ys"
    refine ⟨45, c :: t, rfl, l2, ?_⟩
    rw [e4]
    walk_at "ys"
    refine lstU (by exact Nat.le_of_ble_eq_true rfl) rfl ?_
    walk_at "ys"
    refine ⟨c, t, rfl, l1, ?_⟩
    rw [e5]
    walk_at "ys"
    refine ⟨45, c :: t, rfl, l2, ?_⟩
    walk_at "ys"
    refine lstU (by exact Nat.le_of_ble_eq_true rfl) rfl ?_
    walk_at "ys"
    refine lstU (by exact Nat.le_of_ble_eq_true rfl) rfl ?_
    walk_at "ys"
    refine we_lc rfl (by walk_at "ydec") .one (by walk_at "ydec") (fun _ _ => rfl) ?_
    refine wi_range1 t2 (by walk_at "ydec") (fun _ => rfl) ?_
    walk_at "ys"
    refine ⟨by decide, by decide, ?_⟩
    refine lc_flt (l := List.range 4) (fun _ => false) (fun _ => .d (.int 1)) (by rw [sizeLine_eq]; decide) (fun _ _ => trivial) (fun i M' hi _ => ?_) ?_
    · refine ⟨_, .one, ?_⟩
      show WT _ _ _ _ _
      walk_at "ys"
      match i, List.mem_range.mp hi with
      | 0, _ =>
        refine ix_lst rfl ?_
        walk_at "ys"
        refine ix_lst rfl ?_
        walk_at "ys"
        refine ⟨_, _, rfl, ?_⟩
        refine ⟨_, rfl, rfl, by simp, fun h => absurd h (by simp)⟩
      | 1, _ =>
        refine ix_lst rfl ?_
        walk_at "ys"
        refine ix_lst rfl ?_
        walk_at "ys"
        refine ⟨_, _, rfl, ?_⟩
        refine ⟨_, rfl, rfl, by simp, fun h => absurd h (by simp)⟩
      | 2, _ =>
        refine ix_lst rfl ?_
        walk_at "ys"
        refine ix_lst rfl ?_
        walk_at "ys"
        refine ⟨_, _, rfl, ?_⟩
        refine ⟨_, rfl, rfl, by simp, fun h => absurd h (by simp)⟩
      | 3, _ =>
        refine ix_lst rfl ?_
        walk_at "ys"
        refine ix_lst rfl ?_
        walk_at "ys"
        refine ⟨_, _, rfl, ?_⟩
        refine ⟨_, rfl, rfl, by simp, fun h => absurd h (by simp)⟩
    · refine .data' [] (by simp) ?_
      walk_at "ys"
      refine ix_lst rfl ?_
      walk_at "ys"
      refine ix_lst rfl ?_
      walk_at "ys"
      exact hq M1 hw1
  · walk_at "ys"
    refine we_callK (ks := ["saying"]) (gl := id) (gV := id) (gD := id) D3 (Nat.le_of_ble_eq_true rfl) rfl (by walk_at "ydec") (fun _ _ _ _ _ _ ws hl => match ws, hl with | [_], _ => rfl) (fun r => r) (fun r => r) (fun _ => rfl) (fun _ => rfl) (fun _ => rfl) ?_
    refine wk_cons ?_
    walk_at "ys"
    refine wk_nil ?_
    refine ⟨c, t, rfl, l1, ?_⟩
    rw [e1]
    walk_at "ys"
    refine we_callK (ks := ["saying"]) (gl := id) (gV := id) (gD := id) D3 (Nat.le_of_ble_eq_true rfl) rfl (by walk_at "ydec") (fun _ _ _ _ _ _ ws hl => match ws, hl with | [_], _ => rfl) (fun r => r) (fun r => r) (fun _ => rfl) (fun _ => rfl) (fun _ => rfl) ?_
    refine wk_cons ?_
    walk_at "ys"
    refine wk_nil ?_
    refine ⟨45, c :: t, rfl, l2, ?_⟩
    rw [e2]
    walk_at "ys"
    refine we_callK (ks := ["saying"]) (gl := id) (gV := id) (gD := id) D4 (Nat.le_of_ble_eq_true rfl) rfl (by walk_at "ydec") (fun _ _ _ _ _ _ ws hl => match ws, hl with | [_], _ => rfl) (fun r => r) (fun r => r) (fun _ => rfl) (fun _ => rfl) (fun _ => rfl) ?_
    refine wk_cons ?_
    walk_at "ys"
    refine wk_nil ?_
    refine ⟨c, t, rfl, l1, ?_⟩
    rw [e3]
    walk_at "ys"
    refine we_callK (ks := ["saying"]) (gl := id) (gV := id) (gD := id) D4 (Nat.le_of_ble_eq_true rfl) rfl (by walk_at "ydec") (fun _ _ _ _ _ _ ws hl => match ws, hl with | [_], _ => rfl) (fun r => r) (fun r => r) (fun _ => rfl) (fun _ => rfl) (fun _ => rfl) ?_
    refine wk_cons ?_
    walk_at "ys"
    refine wk_nil ?_
    refine ⟨45, c :: t, rfl, l2, ?_⟩
    rw [e4]
    walk_at "ys"
    refine lstU (by exact Nat.le_of_ble_eq_true rfl) rfl ?_
    walk_at "ys"
    refine we_callK (ks := ["saying"]) (gl := id) (gV := id) (gD := id) D5 (Nat.le_of_ble_eq_true rfl) rfl (by walk_at "ydec") (fun _ _ _ _ _ _ ws hl => match ws, hl with | [_], _ => rfl) (fun r => r) (fun r => r) (fun _ => rfl) (fun _ => rfl) (fun _ => rfl) ?_
    refine wk_cons ?_
    walk_at "ys"
    refine wk_nil ?_
    refine ⟨c, t, rfl, l1, ?_⟩
    rw [e5]
    walk_at "ys"
    refine we_callK (ks := ["saying"]) (gl := id) (gV := id) (gD := id) D5 (Nat.le_of_ble_eq_true rfl) rfl (by walk_at "ydec") (fun _ _ _ _ _ _ ws hl => match ws, hl with | [_], _ => rfl) (fun r => r) (fun r => r) (fun _ => rfl) (fun _ => rfl) (fun _ => rfl) ?_
    refine wk_cons ?_
    walk_at "ys"
    refine wk_nil ?_
    refine ⟨45, c :: t, rfl, l2, ?_⟩
    walk_at "ys"
    refine lstU (by exact Nat.le_of_ble_eq_true rfl) rfl ?_
    walk_at "ys"
    refine lstU (by exact Nat.le_of_ble_eq_true rfl) rfl ?_
    walk_at "ys"
    refine we_lc rfl (by walk_at "ydec") .one (by walk_at "ydec") (fun _ _ => rfl) ?_
    refine wi_range1 t2 (by walk_at "ydec") (fun _ => rfl) ?_
    walk_at "ys"
    refine ⟨by decide, by decide, ?_⟩
    refine lc_flt (l := List.range 4) (fun _ => false) (fun _ => .d (.int 1)) (by rw [sizeLine_eq]; decide) (fun _ _ => trivial) (fun i M' hi _ => ?_) ?_
    · refine ⟨_, .one, ?_⟩
      show WT _ _ _ _ _
      walk_at "ys"
      match i, List.mem_range.mp hi with
      | 0, _ =>
        refine ix_lst rfl ?_
        walk_at "ys"
        refine ix_lst rfl ?_
        walk_at "ys"
        refine ⟨_, _, rfl, ?_⟩
        refine ⟨_, rfl, rfl, by simp, fun h => absurd h (by simp)⟩
      | 1, _ =>
        refine ix_lst rfl ?_
        walk_at "ys"
        refine ix_lst rfl ?_
        walk_at "ys"
        refine ⟨_, _, rfl, ?_⟩
        refine ⟨_, rfl, rfl, by simp, fun h => absurd h (by simp)⟩
      | 2, _ =>
        refine ix_lst rfl ?_
        walk_at "ys"
        refine ix_lst rfl ?_
        walk_at "ys"
        refine ⟨_, _, rfl, ?_⟩
        refine ⟨_, rfl, rfl, by simp, fun h => absurd h (by simp)⟩
      | 3, _ =>
        refine ix_lst rfl ?_
        walk_at "ys"
        refine ix_lst rfl ?_
        walk_at "ys"
        refine ⟨_, _, rfl, ?_⟩
        refine ⟨_, rfl, rfl, by simp, fun h => absurd h (by simp)⟩
    · refine .data' [] (by simp) ?_
      walk_at "ys"
      refine ix_lst rfl ?_
      walk_at "ys"
      refine ix_lst rfl ?_
      walk_at "ys"
      exact hq M1 hw1
end
section
variable {g : GD} {cF cB cS : Addr}
/-! ### _law_well -/
theorem sl_lst {C : Ct} {M : MS} {xs : List PyData} {lo hi : Option Int} {Q : D → MS → Prop} (h : NewL Q M ((cutL xs lo hi).map D.d)) : SlD C (.d (.list xs)) lo hi M Q := h
abbrev sWell : Stmt := top 18
theorem scWell : FnScope ["script", "well", "cell", "water"] ["script"] (defScope sWell) := ⟨rfl, rfl, rfl, by decide +kernel, rfl, by decide +kernel, by decide +kernel⟩
def spWell : SpD := fun ds M Q E => ∃ ns : List Int, ds = [.d (.list (ns.map PyData.int))] ∧ ∀ M' w, WellAt 0 M' w → Q (.r w) M'
theorem ok_well {f : Addr} {fd : FuncData} (T : T0 g cF cB cS) (F : Fun g.K "_law_well" "_law_well" sWell f fd) (hm : g.mg "_law_well" = some (.ref f)) (hb : L2.Binds g.K fd ["script"] []) : DefOk g 1 "_law_well" "_law_well" sWell ["script"] spWell := by
  refine def_ok F hm scWell hb (fun ds M Q E ⟨ns, e, _⟩ => by subst e; rfl) fun ds M Q E ⟨ns, e, hq⟩ => ?_
  subst e
  have t1 := T.int
  have t2 := T.abs
  walk_at "ys"
  refine we_dict (.cons (.cons (.cons .nil))) (by decide) (by decide) (by decide +kernel) fun p hp => ?_
  refine we_list (wa_nil ⟨Nat.zero_le _, .mut fun d hd => ?_⟩)
  have hpd : p ≠ d := fun e => by rw [← e, MS.put_same] at hd; cases hd
  refine we_int (we_int ?_)
  refine ⟨by rw [MS.put_ne hpd, MS.put_same], ?_⟩
  have g1 : (((M.put p (.dct [])).put d (.lst [])).put p (.dct (wk d 26689 0))).m p = some (.dct (wk d 26689 0)) := MS.put_same
  have g2 : (((M.put p (.dct [])).put d (.lst [])).put p (.dct (wk d 26689 0))).m d = some (.lst []) := by rw [MS.put_ne (Ne.symm hpd), MS.put_same]
  show WG _ _ _ _ (((M.put p (.dct [])).put d (.lst [])).put p (.dct (wk d 26689 0))) _
  generalize ((M.put p (.dct [])).put d (.lst [])).put p (.dct (wk d 26689 0)) = M1 at g1 g2
  walk_at "ys"
  refine ws_for rfl (fun _ _ => rfl) ?_
  refine wi_seq ?_
  walk_at "ys"
  refine sl_lst ?_
  refine .data' (cutL (ns.map PyData.int) none (some 60)) rfl ?_
  refine ⟨_, _, ⟨rfl, rfl⟩, ?_⟩
  have hlen : (cutL (ns.map PyData.int) none (some 60)).length ≤ 60 := by
    rw [show (some (60 : Int)) = some ((60 : Nat) : Int) from rfl, cutL_to, List.length_take]; omega
  have hint : ∀ x ∈ cutL (ns.map PyData.int) none (some 60), ∃ i, x = .int i := fun x hx => by
    rw [show (some (60 : Int)) = some ((60 : Nat) : Int) from rfl, cutL_to] at hx
    obtain ⟨i, _, rfl⟩ := List.mem_map.mp (List.mem_of_mem_take hx)
    exact ⟨i, rfl⟩
  generalize cutL (ns.map PyData.int) none (some 60) = cs at hlen hint
  refine ⟨fun i ρ' M' => ∃ (o1 o2 : Option D) (xs : List Int) (mud : Int), ρ' = ([("script", some (D.d (.list (ns.map PyData.int)))), ("well", some (D.r p)), ("cell", o1), ("water", o2)] : Rho) ∧ M'.m p = some (.dct (wk d mud 0)) ∧ M'.m d = some (.lst (xs.map fun i : Int => D.d (.int i))) ∧ xs.length ≤ i, ⟨none, none, [], 26689, rfl, g1, g2, Nat.le_refl _⟩, fun _ _ _ _ => trivial, ?_, ?_⟩
  · rintro i dd ρ' M' hd ⟨o1, o2, xs, mud, rfl, h1, h2, h3⟩
    rw [List.getElem?_map] at hd
    obtain ⟨x, hx, rfl⟩ := Option.map_eq_some_iff.mp hd
    obtain ⟨k, rfl⟩ := hint x (List.mem_of_getElem? hx)
    have hi : i < 60 := by have := (List.getElem?_eq_some_iff.mp hx).1; omega
    walk_at "ys"
    refine ca_abs ?_
    walk_at "ys"
    refine ⟨_, _, _, rfl, h1, va_mud, ?_⟩
    walk_at "ys"
    refine ⟨_, _, rfl, h1, wk_len, ?_⟩
    rw [pu_mud]
    generalize hmud : ((mud * 40014 + (if k < 0 then -k else k) % 1000003 + 3) % 2147483563 : Int) = mud2
    have g5 : (M'.put p (.dct (wk d mud2 0))).m p = some (.dct (wk d mud2 0)) := MS.put_same
    have g6 : (M'.put p (.dct (wk d mud2 0))).m d = some (.lst (xs.map fun i : Int => D.d (.int i))) := by rw [MS.put_ne (Ne.symm hpd)]; exact h2
    generalize M'.put p (.dct (wk d mud2 0)) = M3 at g5 g6
    walk_at "ys"
    refine br (fun h9 => ?_) (fun h9 => ?_)
    · walk_at "ys"
      refine ⟨_, _, _, rfl, g5, va_deep, ?_⟩
      refine ⟨_, rfl, ⟨_, g6⟩, ?_⟩
      walk_at "ys"
      refine ⟨_, g6, by rw [List.length_map, sizeLine_eq]; omega, ?_⟩
      walk_at "ys"
      exact ⟨_, _, xs ++ [_], mud2, rfl, by rw [MS.put_ne hpd]; exact g5, by rw [MS.put_same, List.map_append]; rfl, by rw [List.length_append]; simp; omega⟩
    · walk_at "ys"
      exact ⟨_, _, xs, mud2, rfl, g5, g6, by omega⟩
  · rintro ρ' M' ⟨o1, o2, xs, mud, rfl, h1, h2, h3⟩
    rw [List.length_map] at h3
    walk_at "ys"
    exact hq M' p ⟨d, xs, mud, 0, hpd, h1, h2, by omega, by omega, by omega⟩
end
section
variable {g : GD} {cF cB cS : Addr}
theorem rep_len (x : Str) (n : Nat) : (repS x n).length = x.length * n := by
  show ((List.replicate n x.cps.toList).flatten.toArray).size = x.cps.size * n
  simp [Nat.mul_comm]
theorem kx : ("x" : Str).length = 1 := by decide +kernel
theorem kz : ("zzzzzzz" : Str).length = 7 := by decide +kernel
local macro_rules | `(tactic| walk_at "ylen2") => `(tactic| first | omega | (simp only [sizeLine_eq, len_app, len_cutS, rep_len, S_len, List.length_cons, List.length_nil, List.length_append, k1, k8, kx, kz]; omega))
abbrev sLaw : Stmt := top 31
theorem scLaw : FnScope ["script", "well", "long", "lap", "name", "strings", "begin", "thing", "words", "at", "seven", "sign", "wide"] ["script"] (defScope sLaw) := ⟨rfl, rfl, rfl, by decide +kernel, rfl, by decide +kernel, by decide +kernel⟩
def spLawD : SpD := fun ds M Q E => ∃ ns : List Int, ds = [.d (.list (ns.map PyData.int))] ∧ ∀ M', Q (.d (.bool true)) M'
theorem okS_of {s : Str} (h : s.length ≤ 5000) : okThing (.str s) := h
theorem cut_ok {xs : List PyData} {lo hi : Option Int} (h : thOk xs) : thOk (cutL xs lo hi) := fun x hx => h x (by
  unfold cutL at hx
  exact List.mem_of_mem_drop (List.mem_of_mem_take hx))
theorem exs : ("x" : Str) = S [120] := by decide +kernel
theorem ezs : ("zzzzzzz" : Str) = S [122, 122, 122, 122, 122, 122, 122] := by decide +kernel
theorem own_at2 {i : Nat} (hi : i < 25) : ∃ c t, atI (OWNS.map PyData.str) (i : Int) = some (.str (S (c :: t))) ∧ c ≠ 45 ∧ t.length ≤ 8 := by
  have hk : i < OWNS.length := by show i < 25; omega
  have hall : ∀ s ∈ OWNS, s.cps.toList ≠ [] ∧ s.cps.toList.head? ≠ some 45 ∧ s.cps.toList.length ≤ 8 := by decide +kernel
  obtain ⟨h1, h2, h3⟩ := hall _ (List.getElem_mem hk)
  cases e : (OWNS[i]).cps.toList with
  | nil => exact absurd e h1
  | cons c t =>
    rw [e] at h2 h3
    refine ⟨c, t, atI_nat rfl ?_, fun h => h2 (by rw [h]; rfl), by simp at h3; omega⟩
    rw [List.getElem?_map, List.getElem?_eq_getElem hk, ← e, S_self]
    rfl
theorem ok_law {f : Addr} {fd : FuncData} (T : T0 g cF cB cS) (D1 : DefOk g 1 "_law_bucket" "_law_bucket" sBucket ["well", "many"] spBucket) (D2 : DefOk g 1 "_law_well" "_law_well" sWell ["script"] spWell) (D3 : DefOk g 2 "_law_name" "_law_name" sName ["well"] spName) (D4 : DefOk g 6 "_law_asked" "_law_asked" sAsked ["well", "thing"] spAsked)
    (D5 : DefOk g 2 "_law_turned" "_law_turned" sTurned ["well", "name"] spTurned) (D6 : DefOk g 2 "_law_strings" "_law_strings" sStrings ["well", "name"] spStrings) (D7 : DefOk g 2 "_law_things" "_law_things" sThings ["well", "name"] spThings) (D8 : DefOk g 1 "_law_words" "_law_words" sWords [] spWords)
    (F : Fun g.K "law" "law" sLaw f fd) (hb : L2.Binds g.K fd ["script"] []) : DefAt g 8 "law" "law" sLaw ["script"] spLawD f fd := by
  refine def_at F scLaw hb (fun ds M Q E ⟨ns, e, _⟩ => by subst e; rfl) fun ds M Q E ⟨ns, e, hq⟩ => ?_
  subst e
  have t1 := T.range
  have t2 := T.len
  walk_at "ys"
  refine ⟨ns, rfl, fun M1 w hw1 => ?_⟩
  walk_at "ys"
  refine ⟨w, 7, 0, rfl, hw1, by decide, by decide, fun M2 r2 hw2 _ _ => ?_⟩
  walk_at "ys"
  generalize decide (r2 = 6) = lg
  refine ws_for rfl (fun _ _ => rfl) ?_
  refine wi_range1 t1 (by walk_at "ydec") (fun _ => rfl) ?_
  walk_at "ys"
  refine ⟨by decide, by decide, ?_⟩
  refine ⟨fun i ρ' M' => ∃ (o1 o2 o3 o4 o5 : Option D), ρ' = ([("script", some (D.d (.list (ns.map PyData.int)))), ("well", some (D.r w)), ("long", some (D.d (.bool lg))), ("lap", o1), ("name", o2), ("strings", o3), ("begin", o4), ("thing", o5), ("words", none), ("at", none), ("seven", none), ("sign", none), ("wide", none)] : Rho) ∧ WellAt (1 + 100 * i) M' w,
    ⟨none, none, none, none, none, rfl, hw2.mono (by omega)⟩, fun _ _ _ _ => trivial, ?_, ?_⟩
  · rintro i dd ρ' M3 hd ⟨o1, o2, o3, o4, o5, rfl, hw3⟩
    have hi : i < 3 := by
      have := (List.getElem?_eq_some_iff.mp hd).1
      rw [List.length_map, List.length_range] at this
      exact this
    walk_at "ys"
    refine ⟨w, _, rfl, hw3, by omega, fun M4 c t hw4 hc ht => ?_⟩
    walk_at "ys"
    refine ⟨w, _, _, rfl, hw4, by omega, okS_of (by walk_at "ylen2"), fun M5 hw5 => ?_⟩
    walk_at "ys"
    refine ⟨w, _, _, rfl, hw5, by omega, okS_of (by walk_at "ylen2"), fun M6 hw6 => ?_⟩
    walk_at "ys"
    refine ⟨w, _, c, t, rfl, hw6, by omega, hc, by omega, fun M7 hw7 => ?_⟩
    walk_at "ys"
    refine ⟨w, _, c, t, rfl, hw7, by omega, ht, fun M8 xs hw8 hxs hx1 hx2 => ?_⟩
    walk_at "ys"
    refine ⟨w, _, _, rfl, hw8, by omega, by omega, fun M9 r9 hw9 h09 hr9 => ?_⟩
    walk_at "ys"
    refine ws_for rfl (fun _ _ => rfl) ?_
    refine wi_seq ?_
    walk_at "ys"
    refine sl_lst (.data' (cutL xs (some r9) none) rfl ?_)
    walk_at "ys"
    refine sl_lst (.data' (cutL xs none (some r9)) rfl ?_)
    walk_at "ys"
    refine od_catDD (by have h1 := cutL_len xs (some r9) none; have h2 := cutL_len xs none (some r9); rw [sizeLine_eq]; omega) ?_
    walk_at "ys"
    refine sl_lst (.data' (cutL (cutL xs (some r9) none ++ cutL xs none (some r9)) none (some 16)) rfl ?_)
    walk_at "ys"
    refine ⟨w, _, c, t, rfl, hw9, by omega, ht, fun M10 ys hw10 hys hy => ?_⟩
    have hcs : thOk (cutL (cutL xs (some r9) none ++ cutL xs none (some r9)) none (some 16) ++ ys) := thOk_app (cut_ok (thOk_app (cut_ok hxs) (cut_ok hxs))) hys
    have hcl : (cutL (cutL xs (some r9) none ++ cutL xs none (some r9)) none (some 16)).length ≤ 16 := by
      rw [show (some (16 : Int)) = some ((16 : Nat) : Int) from rfl, cutL_to, List.length_take]; omega
    refine od_catDD (by rw [sizeLine_eq]; omega) ?_
    refine ⟨_, _, ⟨rfl, rfl⟩, ?_⟩
    have hcl2 : (cutL (cutL xs (some r9) none ++ cutL xs none (some r9)) none (some 16) ++ ys).length ≤ 30 := by rw [List.length_append]; omega
    generalize cutL (cutL xs (some r9) none ++ cutL xs none (some r9)) none (some 16) ++ ys = zs at hcs hcl2
    refine ⟨fun j ρ' M' => ∃ (o : Option D), ρ' = ([("script", some (D.d (.list (ns.map PyData.int)))), ("well", some (D.r w)), ("long", some (D.d (.bool lg))), ("lap", some dd), ("name", some (D.d (.str (S (c :: t))))), ("strings", some (D.d (.list xs))), ("begin", some (D.d (.int r9))), ("thing", o), ("words", none), ("at", none), ("seven", none), ("sign", none), ("wide", none)] : Rho) ∧ WellAt (1 + 100 * i + 18 + j) M' w,
      ⟨_, rfl, hw10.mono (by omega)⟩, fun _ _ _ _ => trivial, ?_, ?_⟩
    · rintro j d2 ρ' M11 hd2 ⟨o, rfl, hw11⟩
      rw [List.getElem?_map] at hd2
      obtain ⟨z, hz, rfl⟩ := Option.map_eq_some_iff.mp hd2
      have hj : j < zs.length := (List.getElem?_eq_some_iff.mp hz).1
      walk_at "ys"
      refine ⟨w, _, z, rfl, hw11, by omega, hcs z (List.mem_of_getElem? hz), fun M12 hw12 => ?_⟩
      walk_at "ys"
      exact ⟨_, rfl, hw12.mono (by omega)⟩
    · rintro ρ' M11 ⟨o, rfl, hw11⟩
      rw [List.length_map] at hw11
      walk_at "ys"
      exact ⟨_, _, _, _, _, rfl, hw11.mono (by omega)⟩
  · rintro ρ' M3 ⟨o1, o2, o3, o4, o5, rfl, hw3⟩
    rw [List.length_map, List.length_range] at hw3
    have hw3 : WellAt 400 M3 w := hw3.mono (by decide)
    walk_at "ys"
    refine ⟨rfl, ?_⟩
    walk_at "ys"
    refine ws_for rfl (fun _ _ => rfl) ?_
    refine wi_range1 t1 (by walk_at "ydec") (fun _ => rfl) ?_
    walk_at "ys"
    refine ⟨by decide, by decide, ?_⟩
    refine ⟨fun i ρ' M' => ∃ (o : Option D), ρ' = ([("script", some (D.d (.list (ns.map PyData.int)))), ("well", some (D.r w)), ("long", some (D.d (.bool lg))), ("lap", o1), ("name", o2), ("strings", o3), ("begin", o4), ("thing", o5), ("words", some (D.d (.list (OWNS.map PyData.str)))), ("at", o), ("seven", none), ("sign", none), ("wide", none)] : Rho) ∧ WellAt (400 + 3 * i) M' w, ⟨none, rfl, hw3.mono (by decide)⟩, fun _ _ _ _ => trivial, ?_, ?_⟩
    · rintro i dd ρ' M4 hd ⟨o, rfl, hw4⟩
      rw [List.getElem?_map] at hd
      obtain ⟨i2, hi2, rfl⟩ := Option.map_eq_some_iff.mp hd
      have hi : i < 25 := by
        have := (List.getElem?_eq_some_iff.mp hi2).1
        rw [List.length_range] at this
        exact this
      have e2 : i2 = i := by
        have := (List.getElem?_eq_some_iff.mp hi2).2
        rw [List.getElem_range] at this
        exact this.symm
      subst e2
      obtain ⟨c, t, ha, hc, ht⟩ := own_at2 hi
      walk_at "ys"
      refine ix_lst ha ?_
      walk_at "ys"
      refine ⟨w, _, _, rfl, hw4, by omega, okS_of (by walk_at "ylen2"), fun M5 hw5 => ?_⟩
      walk_at "ys"
      refine ix_lst ha ?_
      walk_at "ys"
      refine ⟨w, _, _, rfl, hw5, by omega, okS_of (by walk_at "ylen2"), fun M6 hw6 => ?_⟩
      walk_at "ys"
      refine ix_lst ha ?_
      rw [exs]
      walk_at "ys"
      refine ⟨w, _, c, t ++ [120], rfl, hw6, by omega, hc, by rw [List.length_append]; simp; omega, fun M7 hw7 => ?_⟩
      walk_at "ys"
      exact ⟨_, rfl, hw7.mono (by omega)⟩
    · rintro ρ' M4 ⟨o, rfl, hw4⟩
      rw [List.length_map, List.length_range] at hw4
      have hw4 : WellAt 500 M4 w := hw4.mono (by decide)
      rw [ezs]
      walk_at "ys"
      refine ⟨w, _, rfl, hw4, by omega, fun M5 c t hw5 hc ht => ?_⟩
      walk_at "ys"
      rw [show (some (7 : Int)) = some ((7 : Nat) : Int) from rfl, cutL_to]
      walk_at "ys"
      obtain ⟨sv, hsv, hsl⟩ : ∃ sv, (c :: t ++ [122, 122, 122, 122, 122, 122, 122]).take 7 = c :: sv ∧ sv.length ≤ 6 := ⟨(t ++ [122, 122, 122, 122, 122, 122, 122]).take 6, rfl, by rw [List.length_take]; omega⟩
      rw [hsv]
      walk_at "ys"
      refine ws_for rfl (fun _ _ => rfl) ?_
      refine wi_seq ?_
      walk_at "ys"
      refine ⟨_, _, ⟨rfl, rfl⟩, ?_⟩
      have h4 : ("09az" : Str).cps.toList.length = 4 := by decide +kernel
      refine ⟨fun i ρ' M' => ∃ (o6 : Option D), ρ' = ([("script", some (D.d (.list (ns.map PyData.int)))), ("well", some (D.r w)), ("long", some (D.d (.bool lg))), ("lap", o1), ("name", o2), ("strings", o3), ("begin", o4), ("thing", o5), ("words", some (D.d (.list (OWNS.map PyData.str)))), ("at", o), ("seven", some (D.d (.str (S (c :: sv))))), ("sign", o6), ("wide", none)] : Rho) ∧ WellAt (509 + 2 * i) M' w, ⟨none, rfl, hw5.mono (by decide)⟩, fun _ _ _ _ => trivial, ?_, ?_⟩
      · rintro i dd ρ' M6 hd ⟨o6, rfl, hw6⟩
        rw [List.getElem?_map] at hd
        obtain ⟨ch, hch, rfl⟩ := Option.map_eq_some_iff.mp hd
        have hi : i < 4 := by
          have := (List.getElem?_eq_some_iff.mp hch).1
          omega
        rw [S_one]
        walk_at "ys"
        refine ⟨w, _, _, rfl, hw6, by omega, okS_of (by walk_at "ylen2"), fun M7 hw7 => ?_⟩
        walk_at "ys"
        refine ⟨w, _, c, sv ++ [ch], rfl, hw7, by omega, hc, by rw [List.length_append]; simp; omega, fun M8 hw8 => ?_⟩
        walk_at "ys"
        exact ⟨_, rfl, hw8.mono (by omega)⟩
      · rintro ρ' M6 ⟨o6, rfl, hw6⟩
        rw [List.length_map, h4] at hw6
        have hw6 : WellAt 520 M6 w := hw6.mono (by decide)
        walk_at "ys"
        refine ws_for rfl (fun _ _ => rfl) ?_
        refine wi_seq ?_
        walk_at "ys"
        refine tupU (by exact Nat.le_of_ble_eq_true rfl) rfl ?_
        refine ⟨_, _, ⟨rfl, rfl⟩, ?_⟩
        have hok : thOk (undD [D.d (.str "9A"), D.d (.str "ABCDEFGHI"), D.d (.str "123456789"), D.d (.str "0b"), D.d (.str "9and"), D.d (.str "and"), D.d (.str "an d"), D.d (.str "a\n"), D.d (.str "-"), D.d (.str ""), D.d (.str "aaaaaaaaA")]) := by
          simp only [undD]
          repeat (first | exact thOk_nil | refine thOk_cons (show Str.length _ ≤ 5000 from by decide +kernel) ?_)
        have hol : (undD [D.d (.str "9A"), D.d (.str "ABCDEFGHI"), D.d (.str "123456789"), D.d (.str "0b"), D.d (.str "9and"), D.d (.str "and"), D.d (.str "an d"), D.d (.str "a\n"), D.d (.str "-"), D.d (.str ""), D.d (.str "aaaaaaaaA")]).length = 11 := rfl
        generalize undD [D.d (.str "9A"), D.d (.str "ABCDEFGHI"), D.d (.str "123456789"), D.d (.str "0b"), D.d (.str "9and"), D.d (.str "and"), D.d (.str "an d"), D.d (.str "a\n"), D.d (.str "-"), D.d (.str ""), D.d (.str "aaaaaaaaA")] = zs at hok hol
        refine ⟨fun i ρ' M' => ∃ (o7 : Option D), ρ' = ([("script", some (D.d (.list (ns.map PyData.int)))), ("well", some (D.r w)), ("long", some (D.d (.bool lg))), ("lap", o1), ("name", o2), ("strings", o3), ("begin", o4), ("thing", o7), ("words", some (D.d (.list (OWNS.map PyData.str)))), ("at", o), ("seven", some (D.d (.str (S (c :: sv))))), ("sign", o6), ("wide", none)] : Rho) ∧ WellAt (520 + i) M' w, ⟨_, rfl, hw6.mono (by decide)⟩, fun _ _ _ _ => trivial, ?_, ?_⟩
        · rintro i dd ρ' M7 hd ⟨o7, rfl, hw7⟩
          rw [List.getElem?_map] at hd
          obtain ⟨z, hz, rfl⟩ := Option.map_eq_some_iff.mp hd
          have hi : i < 11 := by have := (List.getElem?_eq_some_iff.mp hz).1; omega
          walk_at "ys"
          refine ⟨w, _, z, rfl, hw7, by omega, hok z (List.mem_of_getElem? hz), fun M8 hw8 => ?_⟩
          walk_at "ys"
          exact ⟨_, rfl, hw8.mono (by omega)⟩
        · rintro ρ' M7 ⟨o7, rfl, hw7⟩
          rw [List.length_map, hol] at hw7
          walk_at "ys"
          refine brB (fun hlg => ?_) (fun hlg => ?_)
          · walk_at "ys"
            refine od_mulS (by decide) (by decide) (by rw [k8]; decide) (by rw [k8, sizeLine_eq]; decide) ?_
            have hwz := hw7
            have hrl : (repS "a" (4000 : Int).toNat).length ≤ 4000 := by rw [rep_len, k8]; decide
            generalize repS "a" (4000 : Int).toNat = wide at hrl
            walk_at "ys"
            refine ⟨w, _, _, rfl, hwz, by omega, okS_of (by walk_at "ylen2"), fun M10 hw10 => ?_⟩
            walk_at "ys"
            refine ⟨w, _, _, rfl, hw10, by omega, okS_of (by walk_at "ylen2"), fun M11 hw11 => ?_⟩
            walk_at "ys"
            refine ⟨w, _, _, rfl, hw11, by omega, okS_of (by walk_at "ylen2"), fun M12 hw12 => ?_⟩
            exact hq M12
          · walk_at "ys"
            refine ⟨w, 40, _, rfl, hw7, by decide, by omega, fun M9 r9 hwz h09 hr9 => ?_⟩
            have hr9 := hr9 (by decide)
            walk_at "ys"
            refine od_mulS (by omega) (by omega) (by rw [k8]; decide) (by rw [k8, sizeLine_eq]; omega) ?_
            have hrl : (repS "a" (9 + r9).toNat).length ≤ 4000 := by rw [rep_len, k8]; omega
            generalize repS "a" (9 + r9).toNat = wide at hrl
            walk_at "ys"
            refine ⟨w, _, _, rfl, hwz, by omega, okS_of (by walk_at "ylen2"), fun M10 hw10 => ?_⟩
            walk_at "ys"
            refine ⟨w, _, _, rfl, hw10, by omega, okS_of (by walk_at "ylen2"), fun M11 hw11 => ?_⟩
            walk_at "ys"
            refine ⟨w, _, _, rfl, hw11, by omega, okS_of (by walk_at "ylen2"), fun M12 hw12 => ?_⟩
            exact hq M12
end
section
/-! ### the end: what the top has left -/
abbrev sInit : Stmt := inClass (top 6) 0
theorem scInit : IScope ["self", "word"] (defScope sInit) := ⟨rfl, rfl, rfl, by decide +kernel, by decide +kernel, by decide +kernel, by decide +kernel, by decide +kernel, by decide +kernel⟩
def spLaw (K : PySem.W.Frag) : Sp := fun vs H Q _ => ∃ (a : Addr) (ns : List Int), vs = [.ref a] ∧ SqL K H a (ns.map V.int) ∧ ∀ H', Q (.bl true) H'
theorem ints_dp {K : PySem.W.Frag} {F : Hp} : ∀ ns : List Int, DpAll K F (ns.map V.int) (ns.map PyData.int)
  | [] => .nil
  | n :: ns => .cons (.int n) (ints_dp ns)
theorem law_imp {g : GD} {k : Nat} {f : Addr} {fd : FuncData} (h : DefAt g k "law" "law" sLaw ["script"] spLawD f fd) : FnOk g.P g.w g.K g.mg g.base (L2.CX g.P g.w) k f fd ["script"] (spLaw g.K) :=
  h.ok.imp fun vs H Q E ⟨a, ns, ev, hs, hq⟩ => by
    subst ev
    refine ⟨[.d (.list (ns.map PyData.int))], ⟨fun _ => none, fun n => n = fun _ => none⟩, H, fun d _ => d = .d (.bool true), fun _ _ _ => False, ?_, .cons (Dp.lst hs (ints_dp ns)) .nil, ⟨ns, rfl, fun _ => rfl⟩, ?_, ?_⟩
    · exact ⟨fun _ => none, rfl, fun _ z => absurd rfl z, ⟨Fs.refl H, fun b o e => by cases e⟩⟩
    · rintro v H' ⟨d, M', F', _, _, q, rfl⟩
      rw [dv_bool q]
      exact hq H'
    · rintro c d H' ⟨_, _, _, _, _, _, z⟩
      exact z.elim
theorem sup_of {K : PySem.W.Frag} {C B : Addr} {nm q : Str} {N : Addr} {bs bm : List Value} {sn : List Str} {sub : List Value} {ab : Bool} {col : Option Bool} {dd : Option Addr} {m0 m1 m2 m3 m5 : Option Value} {nw : String}
    {nmF qF : Str} {NF : Addr} {bsF bmF : List Value} {snF : List Str} {subF : List Value} {abF : Bool} {colF : Option Bool} {ddF : Option Addr} {n0 n1 n2 n3 n5 : Option Value} {nwF : String} {hd hd' : Bool} {r : Option (Option Value)}
    (h1 : K.lookup C = some (excClassObj nm q C N bs bm hd sn sub ab col dd m0 m1 m2 m3 m5 nw)) (h2 : K.lookup B = some (excClassObj nmF qF B NF bsF bmF hd' snF subF abF colF ddF n0 n1 n2 n3 n5 nwF)) (h3 : bm = .ref B :: bmF)
    (h4 : PySem.W.findIn K (.ref B) "__init__" = r) : PySem.W.ks_superIn K C C "__init__" = r := by
  unfold PySem.W.ks_superIn PySem.W.clsIn
  rw [h1]
  show PySem.W.alongIn K "__init__" (((Value.ref C :: bm).dropWhile (· != .ref C)).drop 1) = r
  rw [PySem.ESX.drop_own, h3]
  have h5 : (match K.lookup B with | some ⟨_, _, .cls cd, _⟩ => PySem.W.alongIn K "__init__" cd.mro | _ => none) = r := h4
  rw [h2] at h5
  exact h5
theorem strs_dp {K : PySem.W.Frag} {F : Hp} : ∀ ss : List Str, DpAll K F (ss.map V.str) (ss.map PyData.str)
  | [] => .nil
  | s :: ss => .cons (.str s) (strs_dp ss)

theorem all_mk {l : PySem.W.OpenLaw} {w : World} {K : PySem.W.Frag} {h : Heap} {mg : Str → Option Value} {fa : Addr} (X : K.In h) (G : h.Ns mainGlobals mg) (hfa : mg "law" = some (.ref fa))
    {f0 : Addr} {od0 an0 : Option Addr} {sl0 : Array (Option Value)} {oc0 kV0 dc0 pm0 cd0 ct0 : Value}
    {f1 : Addr} {od1 an1 : Option Addr} {sl1 : Array (Option Value)} {oc1 kV1 dc1 pm1 cd1 ct1 : Value}
    {f2 : Addr} {od2 an2 : Option Addr} {sl2 : Array (Option Value)} {oc2 kV2 dc2 pm2 cd2 ct2 : Value}
    {f3 : Addr} {od3 an3 : Option Addr} {sl3 : Array (Option Value)} {oc3 kV3 dc3 pm3 cd3 ct3 : Value}
    {f4 : Addr} {od4 an4 : Option Addr} {sl4 : Array (Option Value)} {oc4 kV4 dc4 pm4 cd4 ct4 : Value}
    {f5 : Addr} {od5 an5 : Option Addr} {sl5 : Array (Option Value)} {oc5 kV5 dc5 pm5 cd5 ct5 : Value}
    {f6 : Addr} {od6 an6 : Option Addr} {sl6 : Array (Option Value)} {oc6 kV6 dc6 pm6 cd6 ct6 : Value}
    {f7 : Addr} {od7 an7 : Option Addr} {sl7 : Array (Option Value)} {oc7 kV7 dc7 pm7 cd7 ct7 : Value}
    {f8 : Addr} {od8 an8 : Option Addr} {sl8 : Array (Option Value)} {oc8 kV8 dc8 pm8 cd8 ct8 : Value}
    {f9 : Addr} {od9 an9 : Option Addr} {sl9 : Array (Option Value)} {oc9 kV9 dc9 pm9 cd9 ct9 : Value}
    {f10 : Addr} {od10 an10 : Option Addr} {sl10 : Array (Option Value)} {oc10 kV10 dc10 pm10 cd10 ct10 : Value}
    {f11 : Addr} {od11 an11 : Option Addr} {sl11 : Array (Option Value)} {oc11 kV11 dc11 pm11 cd11 ct11 : Value}
    {f12 : Addr} {od12 an12 : Option Addr} {sl12 : Array (Option Value)} {oc12 kV12 dc12 pm12 cd12 ct12 : Value}
    {f13 : Addr} {od13 an13 : Option Addr} {sl13 : Array (Option Value)} {oc13 kV13 dc13 pm13 cd13 ct13 : Value}
    {f14 : Addr} {od14 an14 : Option Addr} {sl14 : Array (Option Value)} {oc14 kV14 dc14 pm14 cd14 ct14 : Value}
    {f15 : Addr} {od15 an15 : Option Addr} {sl15 : Array (Option Value)} {oc15 kV15 dc15 pm15 cd15 ct15 : Value}
    {f16 : Addr} {od16 an16 : Option Addr} {sl16 : Array (Option Value)} {oc16 kV16 dc16 pm16 cd16 ct16 : Value}
    {f17 : Addr} {od17 an17 : Option Addr} {sl17 : Array (Option Value)} {oc17 kV17 dc17 pm17 cd17 ct17 : Value}
    {f18 : Addr} {od18 an18 : Option Addr} {sl18 : Array (Option Value)} {oc18 kV18 dc18 pm18 cd18 ct18 : Value}
    {f19 : Addr} {od19 an19 : Option Addr} {sl19 : Array (Option Value)} {oc19 kV19 dc19 pm19 cd19 ct19 : Value}
    {f20 : Addr} {od20 an20 : Option Addr} {sl20 : Array (Option Value)} {oc20 kV20 dc20 pm20 cd20 ct20 : Value}
    {nmF qF : Str} {NF : Addr} {bsF bmF : List Value} {snF : List Str} {subF : List Value} {abF : Bool} {colF : Option Bool} {ddF : Option Addr} {n0 n1 n2 n3 n5 : Option Value}
    {cF cB cS : Addr} {nm q : Str} {NB : Addr} {bs bm : List Value} {sn : List Str} {sub : List Value} {ab : Bool} {col : Option Bool} {dd : Option Addr} {m0 m1 m2 m3 m5 : Option Value} {fI cda cc : Addr} {ocI kVI dcI pmI ctI : Value} {odI anI : Option Addr} {slI : Array (Option Value)} {ccl : Value} {cdd : Option Addr} {cvs : Array Value} {ccs : Array (Option Value)} {file : Str} {tf : Tok} {cl : Value} {cld : Option Addr} {csl : Array (Option Value)} {tL tG tM : Tok} {oT : Addr} {ddT : Option Addr} {itsT : Array Value} {nT : Nat} {slT : Array (Option Value)}
    (a0 : PySem.W.nsIn K mainGlobals "contrary" = some (some (.ref f0)))
    (l0 : K.lookup f0 = some ⟨oc0, od0, .func (PySem.W.fnOf "contrary" "contrary" (defArgs sContrary) (defBody sContrary) (defScope sContrary) .none kV0 dc0 pm0 an0 cd0 ct0), sl0⟩)
    (c0 : PySem.W.codeIn K cd0 "contrary" = true)
    (k0 : PySem.W.keepIn K (.ref f0) = true)
    (a1 : PySem.W.nsIn K mainGlobals "sign_of" = some (some (.ref f1)))
    (l1 : K.lookup f1 = some ⟨oc1, od1, .func (PySem.W.fnOf "sign_of" "sign_of" (defArgs sSignOf) (defBody sSignOf) (defScope sSignOf) .none kV1 dc1 pm1 an1 cd1 ct1), sl1⟩)
    (c1 : PySem.W.codeIn K cd1 "sign_of" = true)
    (k1 : PySem.W.keepIn K (.ref f1) = true)
    (a2 : PySem.W.nsIn K mainGlobals "is_yes" = some (some (.ref f2)))
    (l2 : K.lookup f2 = some ⟨oc2, od2, .func (PySem.W.fnOf "is_yes" "is_yes" (defArgs sIsYes) (defBody sIsYes) (defScope sIsYes) .none kV2 dc2 pm2 an2 cd2 ct2), sl2⟩)
    (c2 : PySem.W.codeIn K cd2 "is_yes" = true)
    (k2 : PySem.W.keepIn K (.ref f2) = true)
    (a3 : PySem.W.nsIn K mainGlobals "name_fault" = some (some (.ref f3)))
    (l3 : K.lookup f3 = some ⟨oc3, od3, .func (PySem.W.fnOf "name_fault" "name_fault" (defArgs sFault) (defBody sFault) (defScope sFault) .none kV3 dc3 pm3 an3 cd3 ct3), sl3⟩)
    (c3 : PySem.W.codeIn K cd3 "name_fault" = true)
    (k3 : PySem.W.keepIn K (.ref f3) = true)
    (a4 : PySem.W.nsIn K mainGlobals "check_name" = some (some (.ref f4)))
    (l4 : K.lookup f4 = some ⟨oc4, od4, .func (PySem.W.fnOf "check_name" "check_name" (defArgs sCheck) (defBody sCheck) (defScope sCheck) .none kV4 dc4 pm4 an4 cd4 ct4), sl4⟩)
    (c4 : PySem.W.codeIn K cd4 "check_name" = true)
    (k4 : PySem.W.keepIn K (.ref f4) = true)
    (a5 : PySem.W.nsIn K mainGlobals "is_name" = some (some (.ref f5)))
    (l5 : K.lookup f5 = some ⟨oc5, od5, .func (PySem.W.fnOf "is_name" "is_name" (defArgs sIsName) (defBody sIsName) (defScope sIsName) .none kV5 dc5 pm5 an5 cd5 ct5), sl5⟩)
    (c5 : PySem.W.codeIn K cd5 "is_name" = true)
    (k5 : PySem.W.keepIn K (.ref f5) = true)
    (a6 : PySem.W.nsIn K mainGlobals "is_saying" = some (some (.ref f6)))
    (l6 : K.lookup f6 = some ⟨oc6, od6, .func (PySem.W.fnOf "is_saying" "is_saying" (defArgs sIsSaying) (defBody sIsSaying) (defScope sIsSaying) .none kV6 dc6 pm6 an6 cd6 ct6), sl6⟩)
    (c6 : PySem.W.codeIn K cd6 "is_saying" = true)
    (k6 : PySem.W.keepIn K (.ref f6) = true)
    (a7 : PySem.W.nsIn K mainGlobals "_law_bucket" = some (some (.ref f7)))
    (l7 : K.lookup f7 = some ⟨oc7, od7, .func (PySem.W.fnOf "_law_bucket" "_law_bucket" (defArgs sBucket) (defBody sBucket) (defScope sBucket) .none kV7 dc7 pm7 an7 cd7 ct7), sl7⟩)
    (c7 : PySem.W.codeIn K cd7 "_law_bucket" = true)
    (k7 : PySem.W.keepIn K (.ref f7) = true)
    (a8 : PySem.W.nsIn K mainGlobals "_law_well" = some (some (.ref f8)))
    (l8 : K.lookup f8 = some ⟨oc8, od8, .func (PySem.W.fnOf "_law_well" "_law_well" (defArgs sWell) (defBody sWell) (defScope sWell) .none kV8 dc8 pm8 an8 cd8 ct8), sl8⟩)
    (c8 : PySem.W.codeIn K cd8 "_law_well" = true)
    (k8 : PySem.W.keepIn K (.ref f8) = true)
    (a9 : PySem.W.nsIn K mainGlobals "_law_words" = some (some (.ref f9)))
    (l9 : K.lookup f9 = some ⟨oc9, od9, .func (PySem.W.fnOf "_law_words" "_law_words" (defArgs sWords) (defBody sWords) (defScope sWords) .none kV9 dc9 pm9 an9 cd9 ct9), sl9⟩)
    (c9 : PySem.W.codeIn K cd9 "_law_words" = true)
    (k9 : PySem.W.keepIn K (.ref f9) = true)
    (a10 : PySem.W.nsIn K mainGlobals "_law_fault" = some (some (.ref f10)))
    (l10 : K.lookup f10 = some ⟨oc10, od10, .func (PySem.W.fnOf "_law_fault" "_law_fault" (defArgs sLFault) (defBody sLFault) (defScope sLFault) .none kV10 dc10 pm10 an10 cd10 ct10), sl10⟩)
    (c10 : PySem.W.codeIn K cd10 "_law_fault" = true)
    (k10 : PySem.W.keepIn K (.ref f10) = true)
    (a11 : PySem.W.nsIn K mainGlobals "_law_says" = some (some (.ref f11)))
    (l11 : K.lookup f11 = some ⟨oc11, od11, .func (PySem.W.fnOf "_law_says" "_law_says" (defArgs sLSays) (defBody sLSays) (defScope sLSays) .none kV11 dc11 pm11 an11 cd11 ct11), sl11⟩)
    (c11 : PySem.W.codeIn K cd11 "_law_says" = true)
    (k11 : PySem.W.keepIn K (.ref f11) = true)
    (a12 : PySem.W.nsIn K mainGlobals "_law_name" = some (some (.ref f12)))
    (l12 : K.lookup f12 = some ⟨oc12, od12, .func (PySem.W.fnOf "_law_name" "_law_name" (defArgs sName) (defBody sName) (defScope sName) .none kV12 dc12 pm12 an12 cd12 ct12), sl12⟩)
    (c12 : PySem.W.codeIn K cd12 "_law_name" = true)
    (k12 : PySem.W.keepIn K (.ref f12) = true)
    (a13 : PySem.W.nsIn K mainGlobals "_law_signs" = some (some (.ref f13)))
    (l13 : K.lookup f13 = some ⟨oc13, od13, .func (PySem.W.fnOf "_law_signs" "_law_signs" (defArgs sSigns) (defBody sSigns) (defScope sSigns) .none kV13 dc13 pm13 an13 cd13 ct13), sl13⟩)
    (c13 : PySem.W.codeIn K cd13 "_law_signs" = true)
    (k13 : PySem.W.keepIn K (.ref f13) = true)
    (a14 : PySem.W.nsIn K mainGlobals "_law_strings" = some (some (.ref f14)))
    (l14 : K.lookup f14 = some ⟨oc14, od14, .func (PySem.W.fnOf "_law_strings" "_law_strings" (defArgs sStrings) (defBody sStrings) (defScope sStrings) .none kV14 dc14 pm14 an14 cd14 ct14), sl14⟩)
    (c14 : PySem.W.codeIn K cd14 "_law_strings" = true)
    (k14 : PySem.W.keepIn K (.ref f14) = true)
    (a15 : PySem.W.nsIn K mainGlobals "_law_things" = some (some (.ref f15)))
    (l15 : K.lookup f15 = some ⟨oc15, od15, .func (PySem.W.fnOf "_law_things" "_law_things" (defArgs sThings) (defBody sThings) (defScope sThings) .none kV15 dc15 pm15 an15 cd15 ct15), sl15⟩)
    (c15 : PySem.W.codeIn K cd15 "_law_things" = true)
    (k15 : PySem.W.keepIn K (.ref f15) = true)
    (a16 : PySem.W.nsIn K mainGlobals "_law_heard" = some (some (.ref f16)))
    (l16 : K.lookup f16 = some ⟨oc16, od16, .func (PySem.W.fnOf "_law_heard" "_law_heard" (defArgs sHeard) (defBody sHeard) (defScope sHeard) .none kV16 dc16 pm16 an16 cd16 ct16), sl16⟩)
    (c16 : PySem.W.codeIn K cd16 "_law_heard" = true)
    (k16 : PySem.W.keepIn K (.ref f16) = true)
    (a17 : PySem.W.nsIn K mainGlobals "_law_asked" = some (some (.ref f17)))
    (l17 : K.lookup f17 = some ⟨oc17, od17, .func (PySem.W.fnOf "_law_asked" "_law_asked" (defArgs sAsked) (defBody sAsked) (defScope sAsked) .none kV17 dc17 pm17 an17 cd17 ct17), sl17⟩)
    (c17 : PySem.W.codeIn K cd17 "_law_asked" = true)
    (k17 : PySem.W.keepIn K (.ref f17) = true)
    (a18 : PySem.W.nsIn K mainGlobals "_law_is" = some (some (.ref f18)))
    (l18 : K.lookup f18 = some ⟨oc18, od18, .func (PySem.W.fnOf "_law_is" "_law_is" (defArgs sIs) (defBody sIs) (defScope sIs) .none kV18 dc18 pm18 an18 cd18 ct18), sl18⟩)
    (c18 : PySem.W.codeIn K cd18 "_law_is" = true)
    (k18 : PySem.W.keepIn K (.ref f18) = true)
    (a19 : PySem.W.nsIn K mainGlobals "_law_turned" = some (some (.ref f19)))
    (l19 : K.lookup f19 = some ⟨oc19, od19, .func (PySem.W.fnOf "_law_turned" "_law_turned" (defArgs sTurned) (defBody sTurned) (defScope sTurned) .none kV19 dc19 pm19 an19 cd19 ct19), sl19⟩)
    (c19 : PySem.W.codeIn K cd19 "_law_turned" = true)
    (k19 : PySem.W.keepIn K (.ref f19) = true)
    (a20 : PySem.W.nsIn K mainGlobals "law" = some (some (.ref f20)))
    (l20 : K.lookup f20 = some ⟨oc20, od20, .func (PySem.W.fnOf "law" "law" (defArgs sLaw) (defBody sLaw) (defScope sLaw) .none kV20 dc20 pm20 an20 cd20 ct20), sl20⟩)
    (c20 : PySem.W.codeIn K cd20 "law" = true)
    (k20 : PySem.W.keepIn K (.ref f20) = true)
    (z0 : PySem.W.nsIn K mainGlobals "len" = some none)
    (z1 : PySem.W.nsIn K mainGlobals "isinstance" = some none)
    (z2 : PySem.W.nsIn K mainGlobals "abs" = some none)
    (z3 : PySem.W.nsIn K mainGlobals "int" = some none)
    (z4 : PySem.W.nsIn K mainGlobals "range" = some none)
    (z5 : PySem.W.nsIn K mainGlobals "all" = some none)
    (z6 : PySem.W.nsIn K mainGlobals "list" = some none)
    (z7 : PySem.W.nsIn K mainGlobals "tuple" = some none)
    (z8 : PySem.W.nsIn K mainGlobals "str" = some none)
    (z9 : PySem.W.nsIn K mainGlobals "bool" = some none)
    (z10 : PySem.W.nsIn K mainGlobals "ValueError" = some none)
    (z11 : PySem.W.nsIn K mainGlobals "super" = some none)
    (eF : PySem.W.nsIn K mainGlobals "FollowError" = some (some (.ref cF)))
    (eB : PySem.W.nsIn K mainGlobals "BadName" = some (some (.ref cB)))
    (eS : PySem.W.nsIn K mainGlobals "BadStep" = some (some (.ref cS)))
    (xL : K.lookup cB = some (excClassObj nm q cB NB bs bm true sn sub ab col dd m0 m1 m2 m3 m5 "ValueError.__new__"))
    (xM : PySem.HandSPX.refsVE bm = true)
    (sa : PySem.W.findIn K (.ref cB) "__setattr__" = some (some (.builtin "object.__setattr__")))
    (xE : PySem.W.subIn K (.ref cB) (.type "BaseException") = some true)
    (xT : PySem.W.typeIn K (.ref cB) = some (.type "type"))
    (xK : PySem.W.keepIn K (.ref cB) = true)
    (iI : PySem.W.findIn K (.ref cB) "__init__" = some (some (.ref fI)))
    (tI : PySem.W.typeIn K (.ref fI) = some (.type "function"))
    (lI : K.lookup fI = some ⟨ocI, odI, .func (PySem.W.ksFn "__init__" "BadName.__init__" (defArgs sInit) (defBody sInit) (defScope sInit) .none kVI dcI pmI anI (.ref cda) ctI cc), slI⟩)
    (cI : PySem.W.codeIn K (.ref cda) "BadName.__init__" = true)
    (lC : K.lookup cda = some ⟨ccl, cdd, .fields cvs, ccs⟩)
    (v2 : cvs[2]? = some (.str file tf))
    (hf : (l.prog.main.file == file) = true)
    (lX : K.lookup cc = some ⟨cl, cld, .cell (some (.ref cB)), csl⟩)
    (xF : K.lookup cF = some (excClassObj nmF qF cF NF bsF bmF true snF subF abF colF ddF n0 n1 n2 n3 n5 "ValueError.__new__"))
    (bF : bm = .ref cF :: bmF)
    (iF0 : PySem.W.findIn K (.ref cF) "__init__" = some (some (.builtin "ValueError.__init__")))
    (sV : PySem.W.subIn K (.ref cB) (.type "ValueError") = some true)
    (mr : PySem.W.mroIn K cB (.ref cB) = some true)
    (an : PySem.W.nsIn K cStatics "thirdparty.any" = some none)
    (tp : (l.prog.main.scope.names.lookup ("super" : Str)).isSome = false)
    (nw : PySem.W.findIn K (.ref cB) "word" = some none)
    (ga : PySem.W.findIn K (.ref cB) "__getattribute__" = some (some (.builtin "BaseException.__getattribute__")))
    (gg : PySem.W.findIn K (.ref cB) "__getattr__" = some none)
    (hD : PySem.W.hasDictIn K cB = true)
    (ha : PySem.W.findIn K (.ref cB) "__class__" = some (some (.builtin "object.__class__")))
    (hn : PySem.W.specialIn K (.builtin "object.__class__") "__get__" = some (some (.builtin "getset_descriptor.__get__")))
    (ht : PySem.W.takesIn K (.builtin "object.__class__") = some true)
    (ho : PySem.W.mroIn K cB (.type "object") = some true)
    (sBB : PySem.W.subIn K (.ref cB) (.ref cB) = some true)
    (sBF : PySem.W.subIn K (.ref cB) (.ref cF) = some true)
    (sBS : PySem.W.subIn K (.ref cB) (.ref cS) = some false)
    (tF : PySem.W.typeIn K (.ref cF) = some (.type "type"))
    (tS : PySem.W.typeIn K (.ref cS) = some (.type "type"))
    (hF : PySem.W.hasDictIn K cF = true)
    (hS : PySem.W.hasDictIn K cS = true)
    (ne : (Value.ref cB == Value.ref cS) = false)
    (gL : PySem.W.nsIn K mainGlobals "LETTERS" = some (some (.str "abcdefghijklmnopqrstuvwxyz" tL)))
    (gG : PySem.W.nsIn K mainGlobals "FIGURES" = some (some (.str "0123456789" tG)))
    (gM : PySem.W.nsIn K mainGlobals "NAME_MOST" = some (some (.int 8 tM)))
    (gO : PySem.W.nsIn K mainGlobals "OWN_WORDS" = some (some (.ref oT)))
    (lT : K.lookup oT = some ⟨.type "tuple", ddT, .seq itsT nT, slT⟩)
    (vT : Vals (OWNS.map V.str) itsT.toList)
    (zT : itsT.size ≤ sizeLine) :
    ∃ fd : FuncData, (∀ (s : Shared) (v : Value), BindsTo s fd ⟨[v], []⟩ [("script", v)]) ∧ ∀ base : Heap, K.In base → base.Ns mainGlobals mg → FnOk l.prog w K mg base (L2.CX l.prog w) 8 fa fd ["script"] (spLaw K) := by
  have e := hfa.symm.trans (PySem.W.mg_of X G a20)
  cases e
  have F0 := fun_mk (st := sContrary) l0 c0 k0
  have b0 := F0.binds (ps := ["saying"]) fun _ _ _ _ _ _ us hl => match us, hl with | [_], _ => rfl
  have F1 := fun_mk (st := sSignOf) l1 c1 k1
  have b1 := F1.binds (ps := ["saying"]) fun _ _ _ _ _ _ us hl => match us, hl with | [_], _ => rfl
  have F2 := fun_mk (st := sIsYes) l2 c2 k2
  have b2 := F2.binds (ps := ["saying"]) fun _ _ _ _ _ _ us hl => match us, hl with | [_], _ => rfl
  have F3 := fun_mk (st := sFault) l3 c3 k3
  have b3 := F3.binds (ps := ["thing"]) fun _ _ _ _ _ _ us hl => match us, hl with | [_], _ => rfl
  have F4 := fun_mk (st := sCheck) l4 c4 k4
  have b4 := F4.binds (ps := ["thing"]) fun _ _ _ _ _ _ us hl => match us, hl with | [_], _ => rfl
  have F5 := fun_mk (st := sIsName) l5 c5 k5
  have b5 := F5.binds (ps := ["thing"]) fun _ _ _ _ _ _ us hl => match us, hl with | [_], _ => rfl
  have F6 := fun_mk (st := sIsSaying) l6 c6 k6
  have b6 := F6.binds (ps := ["thing"]) fun _ _ _ _ _ _ us hl => match us, hl with | [_], _ => rfl
  have F7 := fun_mk (st := sBucket) l7 c7 k7
  have b7 := F7.binds (ps := ["well", "many"]) fun _ _ _ _ _ _ us hl => match us, hl with | [_, _], _ => rfl
  have F8 := fun_mk (st := sWell) l8 c8 k8
  have b8 := F8.binds (ps := ["script"]) fun _ _ _ _ _ _ us hl => match us, hl with | [_], _ => rfl
  have F9 := fun_mk (st := sWords) l9 c9 k9
  have b9 := F9.binds (ps := []) fun _ _ _ _ _ _ us hl => match us, hl with | [], _ => rfl
  have F10 := fun_mk (st := sLFault) l10 c10 k10
  have b10 := F10.binds (ps := ["thing"]) fun _ _ _ _ _ _ us hl => match us, hl with | [_], _ => rfl
  have F11 := fun_mk (st := sLSays) l11 c11 k11
  have b11 := F11.binds (ps := ["thing"]) fun _ _ _ _ _ _ us hl => match us, hl with | [_], _ => rfl
  have F12 := fun_mk (st := sName) l12 c12 k12
  have b12 := F12.binds (ps := ["well"]) fun _ _ _ _ _ _ us hl => match us, hl with | [_], _ => rfl
  have F13 := fun_mk (st := sSigns) l13 c13 k13
  have b13 := F13.binds (ps := []) fun _ _ _ _ _ _ us hl => match us, hl with | [], _ => rfl
  have F14 := fun_mk (st := sStrings) l14 c14 k14
  have b14 := F14.binds (ps := ["well", "name"]) fun _ _ _ _ _ _ us hl => match us, hl with | [_, _], _ => rfl
  have F15 := fun_mk (st := sThings) l15 c15 k15
  have b15 := F15.binds (ps := ["well", "name"]) fun _ _ _ _ _ _ us hl => match us, hl with | [_, _], _ => rfl
  have F16 := fun_mk (st := sHeard) l16 c16 k16
  have b16 := F16.binds (ps := ["thing", "way"]) fun _ _ _ _ _ _ us hl => match us, hl with | [_, _], _ => rfl
  have F17 := fun_mk (st := sAsked) l17 c17 k17
  have b17 := F17.binds (ps := ["well", "thing"]) fun _ _ _ _ _ _ us hl => match us, hl with | [_, _], _ => rfl
  have F18 := fun_mk (st := sIs) l18 c18 k18
  have b18 := F18.binds (ps := ["told", "due"]) fun _ _ _ _ _ _ us hl => match us, hl with | [_, _], _ => rfl
  have F19 := fun_mk (st := sTurned) l19 c19 k19
  have b19 := F19.binds (ps := ["well", "name"]) fun _ _ _ _ _ _ us hl => match us, hl with | [_, _], _ => rfl
  have F20 := fun_mk (st := sLaw) l20 c20 k20
  have b20 := F20.binds (ps := ["script"]) fun _ _ _ _ _ _ us hl => match us, hl with | [_], _ => rfl
  refine ⟨PySem.W.fnOf "law" "law" (defArgs sLaw) (defBody sLaw) (defScope sLaw) .none kV20 dc20 pm20 an20 cd20 ct20, fun s v => .of_eq rfl, fun base _ _ => ?_⟩
  obtain ⟨g, hg⟩ : ∃ g : GD, g = ⟨l.prog, w, K, mg, base⟩ := ⟨_, rfl⟩
  have gP : g.P = l.prog := by rw [hg]
  have gK : g.K = K := by rw [hg]
  have gm : g.mg = mg := by rw [hg]
  have S : SupC l.prog K cB fI "BadName.__init__" (defArgs sInit) (defBody sInit) (defScope sInit) (PySem.W.ksFn "__init__" "BadName.__init__" (defArgs sInit) (defBody sInit) (defScope sInit) .none kVI dcI pmI anI (.ref cda) ctI cc) :=
    { cls := ⟨⟨nm, q, NB, bs, bm, sn, sub, ab, col, dd, m0, m1, m2, m3, m5, xL, xM⟩, sa, xE, xT, xK⟩, fn := ⟨_, _, _, _, _, _, _, _, _, _, _, _, _, _, _, _, _, _, _, rfl, lI, cI, lC, v2, hf, lX⟩, sup := sup_of xL xF bF iF0, sub := sV, mro := mr, any := an, top := tp }
  have oI : FnOk l.prog w K mg base (L2.CX l.prog w) 1 fI (PySem.W.ksFn "__init__" "BadName.__init__" (defArgs sInit) (defBody sInit) (defScope sInit) .none kVI dcI pmI anI (.ref cda) ctI cc) ["self", "word"] (spX cB ["word"]) :=
    init1 S (fun env => ⟨_, rfl⟩) scInit rfl rfl (PySem.W.mg_none_of X G z11) nw (by decide +kernel) (by decide +kernel)
  have iF : (PySem.W.clsIn K cF).isSome = true := by obtain ⟨cd, hc, _⟩ := PySem.W.any_some hF; rw [hc]; rfl
  have iS : (PySem.W.clsIn K cS).isSome = true := by obtain ⟨cd, hc, _⟩ := PySem.W.any_some hS; rw [hc]; rfl
  have iB : (PySem.W.clsIn K cB).isSome = true := by obtain ⟨cd, hc, _⟩ := PySem.W.any_some hD; rw [hc]; rfl
  have T : T0 ⟨l.prog, w, K, mg, base⟩ cF cB cS :=
    { len := PySem.W.mg_none_of X G z0, isi := PySem.W.mg_none_of X G z1, abs := PySem.W.mg_none_of X G z2, int := PySem.W.mg_none_of X G z3, range := PySem.W.mg_none_of X G z4, all := PySem.W.mg_none_of X G z5, list := PySem.W.mg_none_of X G z6, tuple := PySem.W.mg_none_of X G z7, str := PySem.W.mg_none_of X G z8, bool := PySem.W.mg_none_of X G z9, verr := PySem.W.mg_none_of X G z10
      lets := ⟨_, .str LET, PySem.W.mg_of X G gL, ⟨_, rfl⟩, fun F => dv_str⟩
      figs := ⟨_, .str FIG, PySem.W.mg_of X G gG, ⟨_, rfl⟩, fun F => dv_str⟩
      most := ⟨_, .int 8, PySem.W.mg_of X G gM, ⟨_, rfl⟩, fun F => dv_int⟩
      own := ⟨_, .ref oT, PySem.W.mg_of X G gO, rfl, fun F => Dp.tup (.inr ⟨_, itsT, nT, lT, rfl, rfl, zT, vT⟩) (strs_dp OWNS)⟩
      mF := PySem.W.mg_of X G eF, mS := PySem.W.mg_of X G eS
      bad := ⟨S.cls, ⟨fI, _, iI, tI, oI, .all fun us hl => match us, hl with | [_, _], _ => rfl⟩, PySem.W.mg_of X G eB, by decide⟩
      badf := ⟨⟨ga, gg, xE, hD⟩, fun f hf => by rcases List.mem_singleton.mp hf with rfl; exact nw, iB, ha, hn, ht, ho⟩
      exm := PySem.W.exm_ref xE hD xT sBB
      kF := by
        unfold PySem.W.kitOne
        split
        · rfl
        · show (if ((PySem.W.clsIn K cF).isSome && PySem.W.typeIn K (.ref cF) == some (.type "type")) = true then PySem.W.subIn K (.ref cB) (.ref cF) else none) = some true
          rw [iF, tF, if_pos (by decide)]; exact sBF
      kV := by
        show (if PySem.W.kitMeta "ValueError" = true then PySem.W.subIn K (.ref cB) (.type "ValueError") else none) = some true
        rw [if_pos (by decide +kernel)]; exact sV
      kS := by
        unfold PySem.W.kitOne
        rw [ne, if_neg (by decide)]
        show (if ((PySem.W.clsIn K cS).isSome && PySem.W.typeIn K (.ref cS) == some (.type "type")) = true then PySem.W.subIn K (.ref cB) (.ref cS) else none) = some false
        rw [iS, tS, if_pos (by decide)]; exact sBS }
  have D0 := ok_contrary (g := ⟨l.prog, w, K, mg, base⟩)  F0 (PySem.W.mg_of X G a0) b0
  have D1 := ok_sign_of (g := ⟨l.prog, w, K, mg, base⟩)  F1 (PySem.W.mg_of X G a1) b1
  have D2 := ok_is_yes (g := ⟨l.prog, w, K, mg, base⟩)  F2 (PySem.W.mg_of X G a2) b2
  have D3 := ok_name_fault (g := ⟨l.prog, w, K, mg, base⟩) T F3 (PySem.W.mg_of X G a3) b3
  have D4 := ok_check_name (g := ⟨l.prog, w, K, mg, base⟩) T D3 F4 (PySem.W.mg_of X G a4) b4
  have D5 := ok_is_name (g := ⟨l.prog, w, K, mg, base⟩) D3 F5 (PySem.W.mg_of X G a5) b5
  have D6 := ok_is_saying (g := ⟨l.prog, w, K, mg, base⟩) T D5 F6 (PySem.W.mg_of X G a6) b6
  have D7 := ok_bucket (g := ⟨l.prog, w, K, mg, base⟩) T F7 (PySem.W.mg_of X G a7) b7
  have D8 := ok_well (g := ⟨l.prog, w, K, mg, base⟩) T F8 (PySem.W.mg_of X G a8) b8
  have D9 := ok_words (g := ⟨l.prog, w, K, mg, base⟩)  F9 (PySem.W.mg_of X G a9) b9
  have D10 := ok_lfault (g := ⟨l.prog, w, K, mg, base⟩) T D9 F10 (PySem.W.mg_of X G a10) b10
  have D11 := ok_lsays (g := ⟨l.prog, w, K, mg, base⟩) T D10 F11 (PySem.W.mg_of X G a11) b11
  have D12 := ok_name (g := ⟨l.prog, w, K, mg, base⟩) T D7 D9 F12 (PySem.W.mg_of X G a12) b12
  have D13 := ok_signs (g := ⟨l.prog, w, K, mg, base⟩)  F13 (PySem.W.mg_of X G a13) b13
  have D14 := ok_strings (g := ⟨l.prog, w, K, mg, base⟩) T D7 D9 D13 F14 (PySem.W.mg_of X G a14) b14
  have D15 := ok_things (g := ⟨l.prog, w, K, mg, base⟩) T D7 F15 (PySem.W.mg_of X G a15) b15
  have D16 := ok_heard (g := ⟨l.prog, w, K, mg, base⟩) T D4 F16 (PySem.W.mg_of X G a16) b16
  have D17 := ok_asked (g := ⟨l.prog, w, K, mg, base⟩) T D7 D10 D16 D6 D11 F17 (PySem.W.mg_of X G a17) b17
  have D18 := ok_is (g := ⟨l.prog, w, K, mg, base⟩) T F18 (PySem.W.mg_of X G a18) b18
  have D19 := ok_turned (g := ⟨l.prog, w, K, mg, base⟩) T D7 D18 D0 D1 D2 F19 (PySem.W.mg_of X G a19) b19
  exact law_imp (ok_law (g := ⟨l.prog, w, K, mg, base⟩) T D7 D8 D12 D17 D19 D14 D15 D9 F20 b20)
theorem walk {l : PySem.W.OpenLaw} {q : Program} {loose : List Str} {XP : (Str → Option Value) → Heap → Prop} {YP : World → Heap → Prop} {d : DefRec} {K : Params → PySem.W.Frag} (hn : l.most = some 63) (hdf : d.params.defaults = [])
    (hY : ∀ (w : World) (h : Heap), YP w h → (K w.params).In h)
    (F : ∀ (w : World) (mg : Str → Option Value) (fa : Addr) (h : Heap), (K w.params).In h → h.Ns mainGlobals mg → mg d.name = some (.ref fa) →
      ∃ fd : FuncData, (∀ (s : Shared) (u : Value), BindsTo s fd ⟨[u], []⟩ [("script", u)]) ∧ ∀ base : Heap, (K w.params).In base → base.Ns mainGlobals mg → FnOk l.prog w (K w.params) mg base (L2.CX l.prog w) 8 fa fd ["script"] (spLaw (K w.params))) :
    PySem.W.WalkO q loose XP YP l.row.toRowW d [] (fun f vs => PySem.call f vs) :=
  L2.walk_of (n := 63) (k := 8) (x := "script") (CX := fun w => L2.CX l.prog w) (sp := fun w => spLaw (K w.params)) hn (by decide) hdf ⟨rfl, by decide, by decide⟩ hY F (fun _ _ a ns _ _ hS => ⟨a, ns, rfl, hS, fun _ => rfl⟩) fun _ _ _ _ _ h => by
    obtain ⟨_, _, _, _, _, _, _, _, _, _, _, _, z⟩ := h
    exact z
end
end Y
open PySem PySem.W PyProof.Rows Y
set_option maxRecDepth 100000 in
set_option maxHeartbeats 0 in
theorem PySem.Challenge.cw_allfollowed_k00_names_and_sayings_holds : PySem.Challenge.rw_allfollowed_k00_names_and_sayings.Holds := by
  w_on; o_law; k_head; (case hw => w_witness2)
  k_fill
  refine Y.walk (l := PySem.Challenge.rw_allfollowed_k00_names_and_sayings) rfl rfl (fun w h Y => PySem.W.kIn_of Y) ?F
  case F =>
    intro w mg fa h KX G hmg
    refine' Y.all_mk KX G hmg ?a0 ?l0 ?c0 ?k0 ?a1 ?l1 ?c1 ?k1 ?a2 ?l2 ?c2 ?k2 ?a3 ?l3 ?c3 ?k3 ?a4 ?l4 ?c4 ?k4 ?a5 ?l5 ?c5 ?k5 ?a6 ?l6 ?c6 ?k6 ?a7 ?l7 ?c7 ?k7 ?a8 ?l8 ?c8 ?k8 ?a9 ?l9 ?c9 ?k9 ?a10 ?l10 ?c10 ?k10 ?a11 ?l11 ?c11 ?k11 ?a12 ?l12 ?c12 ?k12 ?a13 ?l13 ?c13 ?k13 ?a14 ?l14 ?c14 ?k14 ?a15 ?l15 ?c15 ?k15 ?a16 ?l16 ?c16 ?k16 ?a17 ?l17 ?c17 ?k17 ?a18 ?l18 ?c18 ?k18 ?a19 ?l19 ?c19 ?k19 ?a20 ?l20 ?c20 ?k20 ?z0 ?z1 ?z2 ?z3 ?z4 ?z5 ?z6 ?z7 ?z8 ?z9 ?z10 ?z11 ?eF ?eB ?eS ?xL ?xM ?sa ?xE ?xT ?xK ?iI ?tI ?lI ?cI ?lC ?v2 ?hf ?lX ?xF ?bF ?iF0 ?sV ?mr ?an ?tp ?nw ?ga ?gg ?hD ?ha ?hn ?ht ?ho ?sBB ?sBF ?sBS ?tF ?tS ?hF ?hS ?ne ?gL ?gG ?gM ?gO ?lT ?vT ?zT
    (case a0 => k_is)
    (case l0 => k_is)
    (case c0 => k_is)
    (case k0 => k_is)
    (case a1 => k_is)
    (case l1 => k_is)
    (case c1 => k_is)
    (case k1 => k_is)
    (case a2 => k_is)
    (case l2 => k_is)
    (case c2 => k_is)
    (case k2 => k_is)
    (case a3 => k_is)
    (case l3 => k_is)
    (case c3 => k_is)
    (case k3 => k_is)
    (case a4 => k_is)
    (case l4 => k_is)
    (case c4 => k_is)
    (case k4 => k_is)
    (case a5 => k_is)
    (case l5 => k_is)
    (case c5 => k_is)
    (case k5 => k_is)
    (case a6 => k_is)
    (case l6 => k_is)
    (case c6 => k_is)
    (case k6 => k_is)
    (case a7 => k_is)
    (case l7 => k_is)
    (case c7 => k_is)
    (case k7 => k_is)
    (case a8 => k_is)
    (case l8 => k_is)
    (case c8 => k_is)
    (case k8 => k_is)
    (case a9 => k_is)
    (case l9 => k_is)
    (case c9 => k_is)
    (case k9 => k_is)
    (case a10 => k_is)
    (case l10 => k_is)
    (case c10 => k_is)
    (case k10 => k_is)
    (case a11 => k_is)
    (case l11 => k_is)
    (case c11 => k_is)
    (case k11 => k_is)
    (case a12 => k_is)
    (case l12 => k_is)
    (case c12 => k_is)
    (case k12 => k_is)
    (case a13 => k_is)
    (case l13 => k_is)
    (case c13 => k_is)
    (case k13 => k_is)
    (case a14 => k_is)
    (case l14 => k_is)
    (case c14 => k_is)
    (case k14 => k_is)
    (case a15 => k_is)
    (case l15 => k_is)
    (case c15 => k_is)
    (case k15 => k_is)
    (case a16 => k_is)
    (case l16 => k_is)
    (case c16 => k_is)
    (case k16 => k_is)
    (case a17 => k_is)
    (case l17 => k_is)
    (case c17 => k_is)
    (case k17 => k_is)
    (case a18 => k_is)
    (case l18 => k_is)
    (case c18 => k_is)
    (case k18 => k_is)
    (case a19 => k_is)
    (case l19 => k_is)
    (case c19 => k_is)
    (case k19 => k_is)
    (case a20 => k_is)
    (case l20 => k_is)
    (case c20 => k_is)
    (case k20 => k_is)
    (case z0 => k_is)
    (case z1 => k_is)
    (case z2 => k_is)
    (case z3 => k_is)
    (case z4 => k_is)
    (case z5 => k_is)
    (case z6 => k_is)
    (case z7 => k_is)
    (case z8 => k_is)
    (case z9 => k_is)
    (case z10 => k_is)
    (case z11 => k_is)
    (case eF => k_is)
    (case eB => k_is)
    (case eS => k_is)
    (case xL => k_is)
    (case xM => first | rfl | decide +kernel)
    (case sa => k_is)
    (case xE => k_is)
    (case xT => k_is)
    (case xK => k_is)
    (case iI => k_is)
    (case tI => k_is)
    (case lI => k_is)
    (case cI => k_is)
    (case lC => k_is)
    (case v2 => first | rfl | decide +kernel)
    (case hf => first | rfl | decide +kernel)
    (case lX => k_is)
    (case xF => k_is)
    (case bF => first | rfl | decide)
    (case iF0 => k_is)
    (case sV => k_is)
    (case mr => k_is)
    (case an => k_is)
    (case tp => first | rfl | decide +kernel)
    (case nw => k_is)
    (case ga => k_is)
    (case gg => k_is)
    (case hD => k_is)
    (case ha => k_is)
    (case hn => k_is)
    (case ht => k_is)
    (case ho => k_is)
    (case sBB => first | k_is | rfl)
    (case sBF => k_is)
    (case sBS => k_is)
    (case tF => k_is)
    (case tS => k_is)
    (case hF => k_is)
    (case hS => k_is)
    (case ne => first | rfl | decide)
    (case gL => k_is)
    (case gG => k_is)
    (case gM => k_is)
    (case gO => k_is)
    (case lT => k_is)
    (case vT => (repeat (first | exact .nil | refine .cons ⟨_, rfl⟩ ?_)))
    (case zT => (rw [sizeLine_eq]; decide))
#print axioms PySem.Challenge.cw_allfollowed_k00_names_and_sayings_holds
