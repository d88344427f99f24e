import PyProof.Rows.All
import Wide.All
import OpenK.AllK
import Wide.FinOn
import HandS.ForMost
import HandS.Exc
import HandS.IsInst
import HandS.List
import HandS.Text
import HandS.Style
import HandS.SortInts
import HandS.WideBits
import HandS.Deep
import HandS.CallSlots
import HandS.Flow
import HandS.Wide
import HandS.WordsDict
import HandS.SetFor
import HandS.Strs
import HandS.TupAny
import HandS.Conv
import HandS.Iter
import HandS.WordsExc
import HandS.TryOnly
import HandS.HeadHook1
import HandS.ExcIs
import HandS.Defaults
import HandS.HeadHook2
import HandS.HeadEnd
import HandS.Head0
import HandS.Head1
import HandS.Head2
import PySem.Challenge.RW_finesse_k13_legal_calls
set_option Elab.async false
set_option linter.all false
set_option maxRecDepth 100000
set_option maxHeartbeats 0
namespace EV
open PySem PySem.Spec PyProof.Rows L2

/-! ### plain data -/
inductive Dt where
  | non | bl (b : Bool) | int (i : Int) | str (x : Str) | tup (ds : List Dt) | lst (ds : List Dt) | slst (ds : List Dt) | box (n : Nat)
/-- what a slot (or a field) holds: nothing, a value, a list of its own, a dict of its own -/
inductive Sl where
  | none | val (d : Dt) | own (ds : List Dt) | ownd (kvs : List (Dt × Dt)) | exn (c : Nat)
inductive Ob where
  | lst (ds : List Dt) | dct (kvs : List (Dt × Dt)) | ins (c : Nat) (fs : List (Str × Sl)) | dead
structure Sta where
  env : List Sl
  S : List Ob
  ro : Bool
/-- what an expression hands back -/
inductive Hd where
  | val (d : Dt) | new (ds : List Dt) | newd (kvs : List (Dt × Dt)) | own (i : Nat) | fld (n : Nat) (f : Str)
inductive Res (α : Type) where
  | ok (a : α) (s : Sta) | exc (c : Nat) (s : Sta) | stuck
def Res.bind {α β : Type} : Res α → (α → Sta → Res β) → Res β
  | .ok a s, f => f a s
  | .exc c s, _ => .exc c s
  | .stuck, _ => .stuck
/-- who owns a changing object -/
inductive Own where
  | slot (i : Nat) | box (n : Nat) | dx (n : Nat) | fld (n : Nat) (f : Str)
  deriving DecidableEq
structure Wd where
  G : Hp
  m : Own → Addr
  nb : Nat
  /-- the exception that a suite holds: where, its class -/
  xa : Option (Addr × Nat)
/-- the classes; the exception that a suite holds -/
structure Ci where
  cls : Nat → Addr
  xa : Option (Addr × Nat)

def Sl.isOwn : Sl → Bool
  | .own _ => true
  | .ownd _ => true
  | _ => false
def Sl.fit : Sl → Bool
  | .val _ => true
  | .own _ => true
  | .ownd _ => true
  | _ => false
def Live (st : Sta) : Own → Prop
  | .slot i => ∃ sl, st.env[i]? = some sl ∧ sl.isOwn = true
  | .box n => ∃ ob, st.S[n]? = some ob ∧ ob ≠ .dead
  | .dx n => ∃ c fs, st.S[n]? = some (.ins c fs)
  | .fld n f => ∃ c fs sl, st.S[n]? = some (.ins c fs) ∧ fs.lookup f = some sl ∧ sl.isOwn = true

section
variable (K : PySem.W.Frag)
mutual
inductive Rep (W : Wd) : V → Dt → Prop
  | non : Rep W .non .non
  | bl (b : Bool) : Rep W (.bl b) (.bl b)
  | int (i : Int) : Rep W (.int i) (.int i)
  | str (x : Str) : Rep W (.str x) (.str x)
  | tup {a : Addr} {vs : List V} {ds : List Dt} : SqT K W.G a vs → Reps W vs ds → Rep W (.ref a) (.tup ds)
  | lst {a : Addr} {vs : List V} {ds : List Dt} : W.G a = some (.lst vs) → Reps W vs ds → Rep W (.ref a) (.lst ds)
  | slst {a : Addr} {vs : List V} {ds : List Dt} : SqL K W.G a vs → Reps W vs ds → Rep W (.ref a) (.slst ds)
  | box {n : Nat} : n < W.nb → Rep W (.ref (W.m (.box n))) (.box n)
inductive Reps (W : Wd) : List V → List Dt → Prop
  | nil : Reps W [] []
  | cons {v : V} {vs : List V} {d : Dt} {ds : List Dt} : Rep W v d → Reps W vs ds → Reps W (v :: vs) (d :: ds)
end
end
theorem sameT {K : PySem.W.Frag} {H H' : Hp} {a : Addr} {xs : List V} (e : Same H H') (h : SqT K H a xs) : SqT K H' a xs := by
  rcases h with (h | ⟨o, h⟩) | h
  · exact .inl (.inl (e _ _ h))
  · exact .inl (.inr ⟨o, e _ _ h⟩)
  · exact .inr h
structure Ext (W W' : Wd) : Prop where
  g : Same W.G W'.G
  nb : W.nb ≤ W'.nb
  m : ∀ n, n < W.nb → W'.m (.box n) = W.m (.box n)
  xa : W'.xa = W.xa
theorem Ext.refl (W : Wd) : Ext W W := ⟨Same.refl _, Nat.le_refl _, fun _ _ => rfl, rfl⟩
theorem Ext.trans {W W1 W2 : Wd} (a : Ext W W1) (b : Ext W1 W2) : Ext W W2 :=
  ⟨a.g.trans b.g, Nat.le_trans a.nb b.nb, fun n h => (b.m n (Nat.lt_of_lt_of_le h a.nb)).trans (a.m n h), b.xa.trans a.xa⟩
section
variable {K : PySem.W.Frag} {W W' : Wd}
mutual
theorem Rep.ext (e : Ext W W') : ∀ {v : V} {d : Dt}, Rep K W v d → Rep K W' v d
  | _, _, .non => .non
  | _, _, .bl b => .bl b
  | _, _, .int i => .int i
  | _, _, .str x => .str x
  | _, _, .tup s r => .tup (sameT e.g s) (Reps.ext e r)
  | _, _, .lst s r => .lst (e.g _ _ s) (Reps.ext e r)
  | _, _, .slst s r => .slst (e.g.seq s) (Reps.ext e r)
  | _, _, .box (n := n) h => by rw [← e.m n h]; exact .box (Nat.lt_of_lt_of_le h e.nb)
theorem Reps.ext (e : Ext W W') : ∀ {vs : List V} {ds : List Dt}, Reps K W vs ds → Reps K W' vs ds
  | _, _, .nil => .nil
  | _, _, .cons a r => .cons (Rep.ext e a) (Reps.ext e r)
end
theorem Reps.length : ∀ {vs : List V} {ds : List Dt}, Reps K W vs ds → vs.length = ds.length
  | _, _, .nil => rfl
  | _, _, .cons _ r => congrArg (· + 1) (Reps.length r)
theorem Reps.get : ∀ {vs : List V} {ds : List Dt} {i : Nat} {d : Dt}, Reps K W vs ds → ds[i]? = some d → ∃ v, vs[i]? = some v ∧ Rep K W v d
  | _, _, _, _, .nil, e => by simp at e
  | _, _, 0, _, .cons r _, e => by simp at e; subst e; exact ⟨_, rfl, r⟩
  | _, _, i + 1, d, .cons _ t, e => by
    obtain ⟨u, h1, h2⟩ := Reps.get (i := i) (d := d) t (by simpa using e)
    exact ⟨u, by simpa using h1, h2⟩
theorem Reps.getV : ∀ {vs : List V} {ds : List Dt} {i : Nat} {v : V}, Reps K W vs ds → vs[i]? = some v → ∃ d, ds[i]? = some d ∧ Rep K W v d
  | _, _, _, _, .nil, e => by simp at e
  | _, _, 0, _, .cons r _, e => by simp at e; subst e; exact ⟨_, rfl, r⟩
  | _, _, i + 1, d, .cons _ t, e => by
    obtain ⟨u, h1, h2⟩ := Reps.getV (i := i) (v := d) t (by simpa using e)
    exact ⟨u, by simpa using h1, h2⟩
theorem Reps.append : ∀ {xs ys : List V} {us ws : List Dt}, Reps K W xs us → Reps K W ys ws → Reps K W (xs ++ ys) (us ++ ws)
  | _, _, _, _, .nil, s => s
  | _, _, _, _, .cons r t, s => .cons r (Reps.append t s)
theorem Reps.set {x : V} {u : Dt} (r : Rep K W x u) : ∀ {xs : List V} {us : List Dt} (i : Nat), Reps K W xs us → Reps K W (xs.set i x) (us.set i u)
  | _, _, _, .nil => .nil
  | _, _, 0, .cons _ t => .cons r t
  | _, _, i + 1, .cons q t => .cons q (Reps.set r i t)
theorem Reps.take : ∀ {xs : List V} {us : List Dt} (n : Nat), Reps K W xs us → Reps K W (xs.take n) (us.take n)
  | _, _, 0, _ => .nil
  | _, _, _ + 1, .nil => .nil
  | _, _, n + 1, .cons r t => .cons r (Reps.take n t)
theorem Reps.drop : ∀ {xs : List V} {us : List Dt} (n : Nat), Reps K W xs us → Reps K W (xs.drop n) (us.drop n)
  | _, _, 0, r => r
  | _, _, _ + 1, .nil => .nil
  | _, _, n + 1, .cons _ t => Reps.drop n t
theorem Reps.erase : ∀ {xs : List V} {us : List Dt} (n : Nat), Reps K W xs us → Reps K W (xs.eraseIdx n) (us.eraseIdx n)
  | _, _, _, .nil => .nil
  | _, _, 0, .cons _ t => t
  | _, _, n + 1, .cons r t => .cons r (Reps.erase n t)
theorem Reps.reverse {xs : List V} {us : List Dt} (h : Reps K W xs us) : Reps K W xs.reverse us.reverse := by
  induction xs generalizing us with
  | nil => cases h; exact .nil
  | cons x xs ih =>
    cases h with
    | cons a r => rw [List.reverse_cons, List.reverse_cons]; exact (ih r).append (.cons a .nil)
theorem Reps.ints : ∀ (ns : List Int), Reps K W (ns.map V.int) (ns.map Dt.int)
  | [] => .nil
  | n :: r => .cons (.int n) (Reps.ints r)
end

section
variable (K : PySem.W.Frag) (ca : Ci)
/-- a dict's entries, keys ints and texts -/
inductive KReps (W : Wd) : List (Key × V) → List (Dt × Dt) → Prop
  | nil : KReps W [] []
  | int {i : Int} {v : V} {d : Dt} {kvs : List (Key × V)} {ds : List (Dt × Dt)} : Rep K W v d → KReps W kvs ds → KReps W ((Sum.inl i, v) :: kvs) ((.int i, d) :: ds)
  | str {x : Str} {v : V} {d : Dt} {kvs : List (Key × V)} {ds : List (Dt × Dt)} : Rep K W v d → KReps W kvs ds → KReps W ((Sum.inr x, v) :: kvs) ((.str x, d) :: ds)
/-- a slot's content: the address of what it owns -/
def SlRel (W : Wd) (H : Hp) (o : Own) : Option V → Sl → Prop
  | _, .none => True
  | v, .val d => ∃ x, v = some x ∧ Rep K W x d
  | v, .own ds => v = some (.ref (W.m o)) ∧ ∃ vs, H (W.m o) = some (.lst vs) ∧ Reps K W vs ds
  | v, .ownd kvs => v = some (.ref (W.m o)) ∧ ∃ us, H (W.m o) = some (.dK us) ∧ KReps K W us kvs
  | v, .exn c => ∃ a, W.xa = some (a, c) ∧ v = some (.ref a)
inductive FldRel (W : Wd) (H : Hp) (n : Nat) : List (Str × V) → List (Str × Sl) → Prop
  | nil : FldRel W H n [] []
  | cons {f : Str} {v : V} {sl : Sl} {vs : List (Str × V)} {fs : List (Str × Sl)} : sl.fit = true → SlRel K W H (.fld n f) (some v) sl → FldRel W H n vs fs → FldRel W H n ((f, v) :: vs) ((f, sl) :: fs)
def ObRel (W : Wd) (H : Hp) (n : Nat) : Ob → Prop
  | .lst ds => ∃ vs, H (W.m (.box n)) = some (.lst vs) ∧ Reps K W vs ds
  | .dct kvs => ∃ us, H (W.m (.box n)) = some (.dK us) ∧ KReps K W us kvs
  | .ins c fs => ∃ us, H (W.m (.box n)) = some (.ins (ca.cls c) (W.m (.dx n)) us) ∧ H (W.m (.dx n)) = some (.own (W.m (.box n))) ∧ FldRel K W H n us fs ∧ (fs.map (·.1)).Nodup
  | .dead => True
structure Good (W : Wd) (st : Sta) (σ : L2.St) (H : Hp) : Prop where
  gh : Same W.G H
  inj : ∀ o o', Live st o → Live st o' → W.m o = W.m o' → o = o'
  out : ∀ o, Live st o → W.G (W.m o) = none
  slot : ∀ i sl, st.env[i]? = some sl → SlRel K W H (.slot i) (σ[i]?.join) sl
  obj : ∀ n ob, st.S[n]? = some ob → ObRel K ca W H n ob
  len : σ.length = st.env.length
  nb : W.nb = st.S.length
  xa : W.xa = ca.xa
end
def Own.ix : Own → Nat
  | .slot i => i
  | .box n => n
  | .dx n => n
  | .fld n _ => n
/-- owned by the store, not by the frame -/
def Own.sto : Own → Bool
  | .slot _ => false
  | _ => true
/-- an address that the state owns -/
def Tt (W : Wd) (st : Sta) (a : Addr) : Prop := ∃ o, Live st o ∧ W.m o = a
structure Frm (W : Wd) (st : Sta) (H : Hp) (W' : Wd) (st' : Sta) (H' : Hp) : Prop where
  ext : Ext W W'
  keep : ∀ a o, H a = some o → ¬ Tt W st a → H' a = some o
  dom : ∀ a, H' a = none → H a = none
  fresh : ∀ a, Tt W' st' a → Tt W st a ∨ H a = none
  gnew : ∀ a, W'.G a ≠ none → W.G a ≠ none ∨ H a = none ∨ Tt W st a
  ro : st'.ro = st.ro
  roS : st.ro = true → ∀ (n : Nat) (ob : Ob), st.S[n]? = some ob → st'.S[n]? = some ob
  roM : st.ro = true → ∀ o, o.sto = true → Live st o → W'.m o = W.m o ∧ H' (W.m o) = H (W.m o)
theorem Frm.refl (W : Wd) (st : Sta) (H : Hp) : Frm W st H W st H := ⟨.refl W, fun _ _ h _ => h, fun _ h => h, fun _ h => .inl h, fun _ h => .inl h, rfl, fun _ _ _ h => h, fun _ _ _ _ => ⟨rfl, rfl⟩⟩
theorem live_mono {st st' : Sta} (h : ∀ (n : Nat) (ob : Ob), st.S[n]? = some ob → st'.S[n]? = some ob) {o : Own} (so : o.sto = true) (l : Live st o) : Live st' o := by
  cases o with
  | slot i => cases so
  | box n => obtain ⟨ob, e, d⟩ := l; exact ⟨ob, h _ _ e, d⟩
  | dx n => obtain ⟨c, fs, e⟩ := l; exact ⟨c, fs, h _ _ e⟩
  | fld n f => obtain ⟨c, fs, sl, e, q⟩ := l; exact ⟨c, fs, sl, h _ _ e, q⟩
theorem Frm.trans {W W1 W2 : Wd} {st st1 st2 : Sta} {H H1 H2 : Hp} (a : Frm W st H W1 st1 H1) (b : Frm W1 st1 H1 W2 st2 H2) : Frm W st H W2 st2 H2 := by
  refine ⟨a.ext.trans b.ext, fun x o h t => b.keep x o (a.keep x o h t) fun t1 => ?_, fun x h => a.dom x (b.dom x h), fun x t2 => ?_, fun x g2 => ?_, b.ro.trans a.ro, fun r n ob e => b.roS (a.ro.trans r) n ob (a.roS r n ob e), fun r o so l => ?_⟩
  · rcases a.fresh x t1 with z | z
    · exact t z
    · rw [h] at z; cases z
  · rcases b.fresh x t2 with z | z
    · exact a.fresh x z
    · exact .inr (a.dom x z)
  · rcases b.gnew x g2 with z | z | z
    · exact a.gnew x z
    · exact .inr (.inl (a.dom x z))
    · rcases a.fresh x z with z | z
      · exact .inr (.inr z)
      · exact .inr (.inl z)
  · obtain ⟨e1, e2⟩ := a.roM r o so l
    obtain ⟨e3, e4⟩ := b.roM (a.ro.trans r) o so (live_mono (a.roS r) so l)
    exact ⟨e3.trans e1, by rw [← e2, ← e1]; exact e4⟩
section
variable (K : PySem.W.Frag)
/-- how a value lies that an expression hands back -/
def RepH (W0 : Wd) (st0 : Sta) (H0 : Hp) (W : Wd) (st : Sta) (σ : L2.St) (H : Hp) (v : V) : Hd → Prop
  | .val d => Rep K W v d
  | .new ds => ∃ p vs, v = .ref p ∧ H p = some (.lst vs) ∧ Reps K W vs ds ∧ W.G p = none ∧ ¬ Tt W st p ∧ (H0 p = none ∨ Tt W0 st0 p)
  | .newd kvs => ∃ p us, v = .ref p ∧ H p = some (.dK us) ∧ KReps K W us kvs ∧ W.G p = none ∧ ¬ Tt W st p ∧ (H0 p = none ∨ Tt W0 st0 p)
  | .own i => σ[i]? = some (some v)
  | .fld n f => v = .ref (W.m (.fld n f)) ∧ ∃ c fs sl, st.S[n]? = some (.ins c fs) ∧ fs.lookup f = some sl ∧ sl.isOwn = true
end
def Hd.isFld : Hd → Bool
  | .fld _ _ => true
  | _ => false
section
variable {K : PySem.W.Frag} {ca : Ci} {W W' W0 : Wd} {st st' st0 : Sta} {σ : L2.St} {H H' H0 : Hp} {v : V} {h : Hd}
theorem KReps.ext (e : Ext W W') : ∀ {us : List (Key × V)} {kvs : List (Dt × Dt)}, KReps K W us kvs → KReps K W' us kvs
  | _, _, .nil => .nil
  | _, _, .int a r => .int (a.ext e) (KReps.ext e r)
  | _, _, .str a r => .str (a.ext e) (KReps.ext e r)
theorem RepH.stay (f : Frm W st H W' st' H') (r : RepH K W0 st0 H0 W st σ H v h) (hf : h.isFld = true → st.ro = true) : RepH K W0 st0 H0 W' st' σ H' v h := by
  cases h with
  | val d => exact Rep.ext f.ext r
  | new ds =>
    obtain ⟨p, vs, e, h1, h2, h3, h4, h5⟩ := r
    refine ⟨p, vs, e, f.keep p _ h1 h4, h2.ext f.ext, ?_, fun t => ?_, h5⟩
    · cases q : W'.G p with
      | none => rfl
      | some o =>
        rcases f.gnew p (by rw [q]; exact Option.some_ne_none o) with z | z | z
        · exact absurd h3 z
        · rw [h1] at z; cases z
        · exact absurd z h4
    · rcases f.fresh p t with z | z
      · exact h4 z
      · rw [h1] at z; cases z
  | newd kvs =>
    obtain ⟨p, vs, e, h1, h2, h3, h4, h5⟩ := r
    refine ⟨p, vs, e, f.keep p _ h1 h4, h2.ext f.ext, ?_, fun t => ?_, h5⟩
    · cases q : W'.G p with
      | none => rfl
      | some o =>
        rcases f.gnew p (by rw [q]; exact Option.some_ne_none o) with z | z | z
        · exact absurd h3 z
        · rw [h1] at z; cases z
        · exact absurd z h4
    · rcases f.fresh p t with z | z
      · exact h4 z
      · rw [h1] at z; cases z
  | own i => exact r
  | fld n g =>
    obtain ⟨e, c, fs, sl, e1, e2, e3⟩ := r
    have hr := hf rfl
    have l : Live st (.fld n g) := ⟨c, fs, sl, e1, e2, e3⟩
    exact ⟨e.trans (congrArg V.ref (f.roM hr _ rfl l).1.symm), c, fs, sl, f.roS hr n _ e1, e2, e3⟩

/-- relations hang on what is owned alone -/
theorem SlRel.stay {o : Own} {x : Option V} {sl : Sl} (e : Ext W W') (hm : sl.isOwn = true → W'.m o = W.m o ∧ H' (W.m o) = H (W.m o)) (r : SlRel K W H o x sl) : SlRel K W' H' o x sl := by
  cases sl with
  | none => trivial
  | val d => obtain ⟨y, e1, r⟩ := r; exact ⟨y, e1, r.ext e⟩
  | own ds =>
    obtain ⟨e1, vs, h1, r⟩ := r
    obtain ⟨m1, m2⟩ := hm rfl
    exact ⟨by rw [m1]; exact e1, vs, by rw [m1, m2]; exact h1, r.ext e⟩
  | ownd kvs =>
    obtain ⟨e1, vs, h1, r⟩ := r
    obtain ⟨m1, m2⟩ := hm rfl
    exact ⟨by rw [m1]; exact e1, vs, by rw [m1, m2]; exact h1, r.ext e⟩
  | exn c => obtain ⟨a, e1, e2⟩ := r; exact ⟨a, e.xa.trans e1, e2⟩
theorem FldRel.stay {n : Nat} (e : Ext W W') : ∀ {us : List (Str × V)} {fs : List (Str × Sl)}, (∀ f sl, (f, sl) ∈ fs → sl.isOwn = true → W'.m (.fld n f) = W.m (.fld n f) ∧ H' (W.m (.fld n f)) = H (W.m (.fld n f))) → FldRel K W H n us fs → FldRel K W' H' n us fs
  | _, _, _, .nil => .nil
  | _, _, hm, .cons nn r t => .cons nn (r.stay e (hm _ _ List.mem_cons_self)) (FldRel.stay e (fun f sl h => hm f sl (List.mem_cons_of_mem _ h)) t)
theorem lookup_of_mem {α : Type} : ∀ {l : List (Str × α)} {f : Str} {x : α}, (l.map (·.1)).Nodup → (f, x) ∈ l → l.lookup f = some x
  | (g, y) :: l, f, x, nd, h => by
    rcases List.mem_cons.mp h with e | h
    · cases e; simp [List.lookup]
    · have nd' := List.nodup_cons.mp nd
      have ne : ¬ f = g := fun z => nd'.1 (z ▸ List.mem_map.mpr ⟨(f, x), h, rfl⟩)
      rw [List.lookup_cons]
      have : (f == g) = false := beq_eq_false_iff_ne.mpr ne
      rw [this]
      exact lookup_of_mem nd'.2 h
theorem ObRel.stayJ {n : Nat} {ob : Ob} (e : Ext W W') (hm : ∀ o, Live st o → o.sto = true → o.ix = n → W'.m o = W.m o ∧ H' (W.m o) = H (W.m o)) (hn : st.S[n]? = some ob) (r : ObRel K ca W H n ob) : ObRel K ca W' H' n ob := by
  cases ob with
  | lst ds =>
    obtain ⟨vs, h1, r⟩ := r
    obtain ⟨m1, m2⟩ := hm (.box n) ⟨_, hn, by intro z; cases z⟩ rfl rfl
    exact ⟨vs, by rw [m1, m2]; exact h1, r.ext e⟩
  | dct kvs =>
    obtain ⟨vs, h1, r⟩ := r
    obtain ⟨m1, m2⟩ := hm (.box n) ⟨_, hn, by intro z; cases z⟩ rfl rfl
    exact ⟨vs, by rw [m1, m2]; exact h1, r.ext e⟩
  | ins c fs =>
    obtain ⟨us, h1, h2, r, nd⟩ := r
    obtain ⟨m1, m2⟩ := hm (.box n) ⟨_, hn, by intro z; cases z⟩ rfl rfl
    obtain ⟨m3, m4⟩ := hm (.dx n) ⟨c, fs, hn⟩ rfl rfl
    exact ⟨us, by rw [m1, m2, m3]; exact h1, by rw [m3, m4, m1]; exact h2, r.stay e fun f sl hf ho => hm (.fld n f) ⟨c, fs, sl, hn, lookup_of_mem nd hf, ho⟩ rfl rfl, nd⟩
  | dead => trivial
theorem ObRel.stay {n : Nat} {ob : Ob} (e : Ext W W') (hm : ∀ o, Live st o → o.sto = true → W'.m o = W.m o ∧ H' (W.m o) = H (W.m o)) (hn : st.S[n]? = some ob) (r : ObRel K ca W H n ob) : ObRel K ca W' H' n ob :=
  r.stayJ e (fun o l so _ => hm o l so) hn
/-- a live owner's address is tracked -/
theorem Good.there (g : Good K ca W st σ H) {o : Own} (l : Live st o) : H (W.m o) ≠ none := by
  cases o with
  | slot i =>
    obtain ⟨sl, e, so⟩ := l
    have r := g.slot i sl e
    cases sl with
    | own ds => obtain ⟨_, vs, h1, _⟩ := r; rw [h1]; exact Option.some_ne_none _
    | ownd ds => obtain ⟨_, vs, h1, _⟩ := r; rw [h1]; exact Option.some_ne_none _
    | none => cases so
    | val d => cases so
    | exn c => cases so
  | box n =>
    obtain ⟨ob, e, nd⟩ := l
    have r := g.obj n ob e
    cases ob with
    | lst ds => obtain ⟨vs, h1, _⟩ := r; rw [h1]; exact Option.some_ne_none _
    | dct ds => obtain ⟨vs, h1, _⟩ := r; rw [h1]; exact Option.some_ne_none _
    | ins c fs => obtain ⟨vs, h1, _⟩ := r; rw [h1]; exact Option.some_ne_none _
    | dead => exact absurd rfl nd
  | dx n =>
    obtain ⟨c, fs, e⟩ := l
    obtain ⟨_, _, h2, _⟩ := g.obj n _ e
    rw [h2]; exact Option.some_ne_none _
  | fld n f =>
    obtain ⟨c, fs, sl, e, e2, so⟩ := l
    obtain ⟨us, _, _, r, _⟩ := g.obj n _ e
    have go : ∀ {us : List (Str × V)} {fs : List (Str × Sl)}, FldRel K W H n us fs → fs.lookup f = some sl → H (W.m (.fld n f)) ≠ none := by
      intro us fs r
      induction r with
      | nil => intro z; simp at z
      | @cons g v sl' vs fs nn r t ih =>
        intro z
        rw [List.lookup_cons] at z
        by_cases e : f = g
        · subst e
          simp at z
          subst z
          cases sl' with
          | own ds => obtain ⟨_, vs, h1, _⟩ := r; rw [h1]; exact Option.some_ne_none _
          | ownd ds => obtain ⟨_, vs, h1, _⟩ := r; rw [h1]; exact Option.some_ne_none _
          | none => cases so
          | val d => cases so
          | exn c => cases so
        · have : (f == g) = false := beq_eq_false_iff_ne.mpr e
          rw [this] at z
          exact ih z
    exact go r e2
theorem Good.notT (g : Good K ca W st σ H) {p : Addr} (hp : H p = none) : ¬ Tt W st p := fun ⟨_, l, e⟩ => g.there l (e ▸ hp)
end

section
variable {K : PySem.W.Frag} {ca : Ci} {W W0 : Wd} {st st0 : Sta} {σ : L2.St} {H H0 : Hp} {v : V} {h : Hd} {p : Addr} {ob : HO}
theorem RepH.early {W1 : Wd} {st1 : Sta} {H1 : Hp} (f : Frm W0 st0 H0 W1 st1 H1) (r : RepH K W1 st1 H1 W st σ H v h) : RepH K W0 st0 H0 W st σ H v h := by
  have go : ∀ p, (H1 p = none ∨ Tt W1 st1 p) → (H0 p = none ∨ Tt W0 st0 p) := fun p h => by
    rcases h with h | h
    · exact .inl (f.dom p h)
    · exact (f.fresh p h).symm
  cases h with
  | val d => exact r
  | new ds => obtain ⟨p, vs, e, h1, h2, h3, h4, h5⟩ := r; exact ⟨p, vs, e, h1, h2, h3, h4, go p h5⟩
  | newd ds => obtain ⟨p, vs, e, h1, h2, h3, h4, h5⟩ := r; exact ⟨p, vs, e, h1, h2, h3, h4, go p h5⟩
  | own i => exact r
  | fld n g => exact r
def Wd.frz (W : Wd) (p : Addr) (ob : HO) : Wd := { W with G := upd W.G p ob }
def Wd.setm (W : Wd) (o : Own) (a : Addr) : Wd := { W with m := fun o' => if o' = o then a else W.m o' }
theorem setm_same {o : Own} {a : Addr} : (W.setm o a).m o = a := if_pos rfl
theorem setm_ne {o o' : Own} {a : Addr} (h : o' ≠ o) : (W.setm o a).m o' = W.m o' := if_neg h
theorem ext_frz (n : W.G p = none) : Ext W (W.frz p ob) := ⟨fun b o e => by show upd W.G p ob b = some o; rw [upd_ne (ne_of_none e n)]; exact e, Nat.le_refl _, fun _ _ => rfl, rfl⟩
theorem ext_slot {i : Nat} {a : Addr} : Ext W (W.setm (.slot i) a) := ⟨Same.refl _, Nat.le_refl _, fun _ _ => setm_ne (by intro z; cases z), rfl⟩
/-- a new object is laid -/
theorem Good.alloc (g : Good K ca W st σ H) (hp : H p = none) : Good K ca W st σ (upd H p ob) := by
  have ne : ∀ o, Live st o → W.m o ≠ p := fun o l e => g.there l (e ▸ hp)
  refine ⟨fun b o e => ?_, g.inj, g.out, fun i sl e => (g.slot i sl e).stay (.refl W) fun so => ⟨rfl, upd_ne (ne _ ⟨sl, e, so⟩)⟩, fun n ob e => (g.obj n ob e).stay (.refl W) (fun o l _ => ⟨rfl, upd_ne (ne o l)⟩) e, g.len, g.nb, g.xa⟩
  rw [upd_ne (ne_of_none (g.gh b o e) hp)]
  exact g.gh b o e
theorem Frm.alloc (f : Frm W0 st0 H0 W st H) (hp : H p = none) (g : Good K ca W st σ H) : Frm W0 st0 H0 W st (upd H p ob) := by
  have nn : ∀ a, upd H p ob a = none → H a = none := fun a e => by
    by_cases q : a = p
    · subst q; exact hp
    · rw [upd_ne q] at e; exact e
  refine ⟨f.ext, fun a o e t => ?_, fun a e => f.dom a (nn a e), f.fresh, f.gnew, f.ro, f.roS, fun r o so l => ?_⟩
  · have z := f.keep a o e t
    rw [upd_ne (ne_of_none z hp)]
    exact z
  · obtain ⟨e1, e2⟩ := f.roM r o so l
    refine ⟨e1, ?_⟩
    have l' : Live st o := live_mono (f.roS r) so l
    have ne : W.m o ≠ p := fun e => g.there l' (e ▸ hp)
    rw [e1] at ne
    rw [upd_ne ne]
    exact e2
/-- an object of nobody's becomes a value -/
theorem Good.frz (g : Good K ca W st σ H) (hp : H p = some ob) (hG : W.G p = none) (hT : ¬ Tt W st p) : Good K ca (W.frz p ob) st σ H := by
  have ne : ∀ o, Live st o → W.m o ≠ p := fun o l e => hT ⟨o, l, e⟩
  refine ⟨fun b o e => ?_, g.inj, fun o l => ?_, fun i sl e => (g.slot i sl e).stay (ext_frz hG) fun so => ⟨rfl, rfl⟩, fun n ob e => (g.obj n ob e).stay (ext_frz hG) (fun o l _ => ⟨rfl, rfl⟩) e, g.len, g.nb, g.xa⟩
  · have e' : upd W.G p ob b = some o := e
    by_cases q : b = p
    · subst q; rw [upd_same] at e'; rw [hp]; exact e'
    · rw [upd_ne q] at e'; exact g.gh b o e'
  · show upd W.G p ob (W.m o) = none
    rw [upd_ne (ne o l)]
    exact g.out o l
theorem Frm.frz (f : Frm W0 st0 H0 W st H) (hG : W.G p = none) (h0 : H0 p = none ∨ Tt W0 st0 p) : Frm W0 st0 H0 (W.frz p ob) st H := by
  refine ⟨f.ext.trans (ext_frz hG), f.keep, f.dom, f.fresh, fun a e => ?_, f.ro, f.roS, f.roM⟩
  have e' : upd W.G p ob a ≠ none := e
  by_cases q : a = p
  · subst q; exact .inr h0
  · rw [upd_ne q] at e'; exact f.gnew a e'
/-- a handed back list becomes a value -/
theorem frz_new {ds : List Dt} (f : Frm W0 st0 H0 W st H) (g : Good K ca W st σ H) (r : RepH K W0 st0 H0 W st σ H v (.new ds)) : ∃ W', Frm W0 st0 H0 W' st H ∧ Good K ca W' st σ H ∧ Rep K W' v (.lst ds) ∧ Ext W W' := by
  obtain ⟨p, vs, rfl, h1, h2, h3, h4, h5⟩ := r
  exact ⟨W.frz p (.lst vs), f.frz h3 h5, g.frz h1 h3 h4, .lst (show upd W.G p (.lst vs) p = _ from upd_same) (h2.ext (ext_frz h3)), ext_frz h3⟩
/-- a new tuple is a value at once -/
theorem new_tup {vs : List V} {ds : List Dt} (f : Frm W0 st0 H0 W st H) (g : Good K ca W st σ H) (r : Reps K W vs ds) (hp : H p = none) :
    ∃ W', Frm W0 st0 H0 W' st (upd H p (.tup vs)) ∧ Good K ca W' st σ (upd H p (.tup vs)) ∧ Rep K W' (.ref p) (.tup ds) ∧ Ext W W' := by
  have hG : W.G p = none := by
    cases q : W.G p with
    | none => rfl
    | some o => rw [g.gh p o q] at hp; cases hp
  exact ⟨W.frz p (.tup vs), (f.alloc hp g).frz hG (.inl (f.dom p hp)), (g.alloc hp).frz upd_same hG (g.notT hp), .tup (SqT.of (show upd W.G p (.tup vs) p = _ from upd_same)) (r.ext (ext_frz hG)), ext_frz hG⟩
theorem new_lst {vs : List V} {ds : List Dt} (f : Frm W0 st0 H0 W st H) (g : Good K ca W st σ H) (r : Reps K W vs ds) (hp : H p = none) :
    Frm W0 st0 H0 W st (upd H p (.lst vs)) ∧ Good K ca W st σ (upd H p (.lst vs)) ∧ RepH K W0 st0 H0 W st σ (upd H p (.lst vs)) (.ref p) (.new ds) := by
  have hG : W.G p = none := by
    cases q : W.G p with
    | none => rfl
    | some o => rw [g.gh p o q] at hp; cases hp
  exact ⟨f.alloc hp g, g.alloc hp, p, vs, rfl, upd_same, r, hG, g.notT hp, .inl (f.dom p hp)⟩
end

/-! ### what an owner's change leaves -/
section
variable {K : PySem.W.Frag} {ca : Ci} {W W0 : Wd} {st st0 : Sta} {σ : L2.St} {H H0 : Hp} {v : V} {h : Hd} {p : Addr} {ob : HO}
/-- the slot's own list becomes a value -/
def Sta.setE (st : Sta) (i : Nat) (sl : Sl) : Sta := { st with env := st.env.set i sl }
theorem live_setE {i : Nat} {sl : Sl} (so : sl.isOwn = false) {o : Own} (l : Live (st.setE i sl) o) : Live st o ∧ o ≠ .slot i := by
  cases o with
  | slot j =>
    obtain ⟨s', e, so'⟩ := l
    have e' : (st.env.set i sl)[j]? = some s' := e
    by_cases q : i = j
    · subst q
      by_cases lt : i < st.env.length
      · rw [List.getElem?_set_self lt] at e'; cases e'; rw [so] at so'; cases so'
      · rw [List.getElem?_eq_none (by simpa using lt)] at e'; cases e'
    · rw [List.getElem?_set_ne q] at e'
      exact ⟨⟨s', e', so'⟩, fun z => q (by cases z; rfl)⟩
  | box n => exact ⟨l, fun z => by cases z⟩
  | dx n => exact ⟨l, fun z => by cases z⟩
  | fld n f => exact ⟨l, fun z => by cases z⟩
/-- a slot is stored: a value (its list, if it had one, is let go) -/
theorem Good.setV {i : Nat} {sl : Sl} {x : Option V} (g : Good K ca W st σ H) (so : sl.isOwn = false) (r : SlRel K W H (.slot i) x sl) : Good K ca W (st.setE i sl) (σ.set i x) H := by
  refine ⟨g.gh, fun o o' l l' => g.inj o o' (live_setE so l).1 (live_setE so l').1, fun o l => g.out o (live_setE so l).1, fun j s' e => ?_, g.obj, ?_, g.nb, g.xa⟩
  · have e' : (st.env.set i sl)[j]? = some s' := e
    by_cases q : i = j
    · subst q
      by_cases lt : i < st.env.length
      · rw [List.getElem?_set_self lt] at e'; cases e'
        rw [List.getElem?_set_self (by rw [g.len]; exact lt)]
        exact r
      · rw [List.getElem?_eq_none (by simpa using lt)] at e'; cases e'
    · rw [List.getElem?_set_ne q] at e' ⊢
      exact g.slot j s' e'
  · show (σ.set i x).length = (st.env.set i sl).length
    rw [List.length_set, List.length_set]
    exact g.len
theorem Frm.setV {i : Nat} {sl : Sl} (f : Frm W0 st0 H0 W st H) (so : sl.isOwn = false) : Frm W0 st0 H0 W (st.setE i sl) H :=
  ⟨f.ext, f.keep, f.dom, fun a ⟨o, l, e⟩ => f.fresh a ⟨o, (live_setE so l).1, e⟩, f.gnew, f.ro, f.roS, f.roM⟩
/-- an expression's store of a slot: σ stays -/
theorem Good.setE {i : Nat} {sl : Sl} (g : Good K ca W st σ H) (so : sl.isOwn = false) (r : SlRel K W H (.slot i) (σ[i]?.join) sl) : Good K ca W (st.setE i sl) σ H := by
  refine ⟨g.gh, fun o o' l l' => g.inj o o' (live_setE so l).1 (live_setE so l').1, fun o l => g.out o (live_setE so l).1, fun j s' e => ?_, g.obj, ?_, g.nb, g.xa⟩
  · have e' : (st.env.set i sl)[j]? = some s' := e
    by_cases q : i = j
    · subst q
      by_cases lt : i < st.env.length
      · rw [List.getElem?_set_self lt] at e'; cases e'
        exact r
      · rw [List.getElem?_eq_none (by simpa using lt)] at e'; cases e'
    · rw [List.getElem?_set_ne q] at e'
      exact g.slot j s' e'
  · show σ.length = (st.env.set i sl).length
    rw [List.length_set]
    exact g.len
theorem frz_slot {i : Nat} {ds : List Dt} (f : Frm W0 st0 H0 W st H) (g : Good K ca W st σ H) (e : st.env[i]? = some (.own ds)) :
    ∃ W' x, σ[i]? = some (some x) ∧ Frm W0 st0 H0 W' (st.setE i (.val (.lst ds))) H ∧ Good K ca W' (st.setE i (.val (.lst ds))) σ H ∧ Rep K W' x (.lst ds) ∧ Ext W W' := by
  obtain ⟨e1, vs, h1, r⟩ := g.slot i _ e
  have lv : Live st (.slot i) := ⟨_, e, rfl⟩
  have hG := g.out _ lv
  have ex : σ[i]? = some (some (V.ref (W.m (.slot i)))) := by
    cases q : σ[i]? with
    | none => rw [q] at e1; cases e1
    | some y => rw [q] at e1; simpa using e1
  have nt : ¬ Tt W (st.setE i .none) (W.m (.slot i)) := fun ⟨o, l, e⟩ => by
    obtain ⟨l1, l2⟩ := live_setE (sl := .none) rfl l
    exact l2 (g.inj _ _ l1 lv e)
  have rp : Rep K (W.frz (W.m (.slot i)) (.lst vs)) (.ref (W.m (.slot i))) (.lst ds) := .lst (show upd W.G _ _ _ = _ from upd_same) (r.ext (ext_frz hG))
  have g1 : Good K ca W (st.setE i .none) σ H := g.setE rfl trivial
  have g2 := g1.frz h1 hG nt
  have f1 : Frm W0 st0 H0 (W.frz (W.m (.slot i)) (.lst vs)) st H := f.frz hG ((f.fresh _ ⟨_, lv, rfl⟩).symm)
  have ee : st.setE i (.val (.lst ds)) = (st.setE i .none).setE i (.val (.lst ds)) := by simp [Sta.setE]
  refine ⟨W.frz (W.m (.slot i)) (.lst vs), _, ex, f1.setV rfl, ?_, rp, ext_frz hG⟩
  rw [ee]
  exact g2.setE rfl ⟨_, by rw [ex]; rfl, rp⟩
theorem SlRel.slotm {i : Nat} {a : Addr} {o : Own} {x : Option V} {sl : Sl} (ne : o ≠ .slot i) (r : SlRel K W H o x sl) : SlRel K (W.setm (.slot i) a) H o x sl :=
  r.stay ext_slot fun _ => ⟨setm_ne ne, rfl⟩
/-- a handed back list goes to a slot -/
theorem own_slot {i : Nat} {sl : Sl} (hi : i < st.env.length) (so : sl.isOwn = true) (f : Frm W0 st0 H0 W st H) (g : Good K ca W st σ H) (hG : W.G p = none) (hT : ¬ Tt W st p) (h0 : H0 p = none ∨ Tt W0 st0 p)
    (r : SlRel K (W.setm (.slot i) p) H (.slot i) (some (.ref p)) sl) :
    Frm W0 st0 H0 (W.setm (.slot i) p) (st.setE i sl) H ∧ Good K ca (W.setm (.slot i) p) (st.setE i sl) (σ.set i (some (.ref p))) H := by
  have lv : ∀ {o : Own}, Live (st.setE i sl) o → o = .slot i ∨ (o ≠ .slot i ∧ Live st o) := fun {o} l => by
    by_cases q : o = .slot i
    · exact .inl q
    · refine .inr ⟨q, ?_⟩
      cases o with
      | slot j =>
        obtain ⟨s', e, so'⟩ := l
        have e' : (st.env.set i sl)[j]? = some s' := e
        rw [List.getElem?_set_ne (fun z => q (by rw [z]))] at e'
        exact ⟨s', e', so'⟩
      | box n => exact l
      | dx n => exact l
      | fld n f => exact l
  refine ⟨⟨f.ext.trans ext_slot, f.keep, f.dom, fun a ⟨o, l, e⟩ => ?_, f.gnew, f.ro, f.roS, fun hr o so' l => ?_⟩, ⟨g.gh, fun o o' l l' e => ?_, fun o l => ?_, fun j s' e => ?_, fun n ob e => ?_, ?_, g.nb, g.xa⟩⟩
  · rcases lv l with z | ⟨z, l1⟩
    · subst z; rw [setm_same] at e; subst e; exact h0.symm
    · rw [setm_ne z] at e; exact f.fresh a ⟨o, l1, e⟩
  · obtain ⟨e1, e2⟩ := f.roM hr o so' l
    exact ⟨(setm_ne (by intro z; subst z; cases so')).trans e1, e2⟩
  · rcases lv l with z | ⟨z, l1⟩
    · subst z
      rcases lv l' with z' | ⟨z', l1'⟩
      · exact z'.symm
      · rw [setm_same, setm_ne z'] at e
        exact absurd ⟨o', l1', e.symm⟩ hT
    · rw [setm_ne z] at e
      rcases lv l' with z' | ⟨z', l1'⟩
      · subst z'
        rw [setm_same] at e
        exact absurd ⟨o, l1, e⟩ hT
      · rw [setm_ne z'] at e
        exact g.inj _ _ l1 l1' e
  · rcases lv l with z | ⟨z, l1⟩
    · subst z; rw [setm_same]; exact hG
    · rw [setm_ne z]; exact g.out o l1
  · have e' : (st.env.set i sl)[j]? = some s' := e
    by_cases q : i = j
    · subst q
      rw [List.getElem?_set_self hi] at e'; cases e'
      rw [List.getElem?_set_self (by rw [g.len]; exact hi)]
      exact r
    · rw [List.getElem?_set_ne q] at e' ⊢
      exact (g.slot j s' e').slotm (by intro z; cases z; exact q rfl)
  · exact (g.obj n ob e).stay ext_slot (fun o l so => ⟨setm_ne (by intro z; subst z; cases so), rfl⟩) e
  · show (σ.set i _).length = (st.env.set i sl).length
    rw [List.length_set, List.length_set]
    exact g.len
/-- the slot's own object is written -/
theorem mut_slot {i : Nat} {sl sl' : Sl} {ob : HO} (e : st.env[i]? = some sl) (so : sl.isOwn = true) (so' : sl'.isOwn = true) (f : Frm W0 st0 H0 W st H) (g : Good K ca W st σ H)
    (r : SlRel K W (upd H (W.m (.slot i)) ob) (.slot i) (some (.ref (W.m (.slot i)))) sl') :
    Frm W0 st0 H0 W (st.setE i sl') (upd H (W.m (.slot i)) ob) ∧ Good K ca W (st.setE i sl') σ (upd H (W.m (.slot i)) ob) := by
  have lt : i < st.env.length := (List.getElem?_eq_some_iff.mp e).1
  have li : Live st (.slot i) := ⟨sl, e, so⟩
  have lv : ∀ {o : Own}, Live (st.setE i sl') o → Live st o := fun {o} l => by
    cases o with
    | slot j =>
      by_cases q : i = j
      · subst q; exact li
      · obtain ⟨s', e, so'⟩ := l
        have e' : (st.env.set i sl')[j]? = some s' := e
        rw [List.getElem?_set_ne q] at e'
        exact ⟨s', e', so'⟩
    | box n => exact l
    | dx n => exact l
    | fld n f => exact l
  have ne : ∀ {o}, Live st o → o ≠ .slot i → W.m o ≠ W.m (.slot i) := fun l q z => q (g.inj _ _ l li z)
  have h0 : H (W.m (.slot i)) ≠ none := g.there li
  have t0 : Tt W0 st0 (W.m (.slot i)) ∨ H0 (W.m (.slot i)) = none := f.fresh _ ⟨_, li, rfl⟩
  refine ⟨⟨f.ext, fun a o h t => ?_, fun a h => ?_, fun a ⟨o, l, e⟩ => f.fresh a ⟨o, lv l, e⟩, f.gnew, f.ro, f.roS, fun hr o so' l => ?_⟩, ⟨fun b o h => ?_, fun o o' l l' => g.inj o o' (lv l) (lv l'), fun o l => g.out o (lv l), fun j s' e' => ?_, fun n ob e => ?_, ?_, g.nb, g.xa⟩⟩
  · have z : a ≠ W.m (.slot i) := fun z => by
      rcases t0 with q | q
      · exact t (z ▸ q)
      · rw [← z, h] at q; cases q
    rw [upd_ne z]
    exact f.keep a o h t
  · by_cases z : a = W.m (.slot i)
    · rw [z, upd_same] at h; cases h
    · rw [upd_ne z] at h; exact f.dom a h
  · obtain ⟨e1, e2⟩ := f.roM hr o so' l
    refine ⟨e1, ?_⟩
    have l1 : Live st o := live_mono (f.roS hr) so' l
    have z : W.m o ≠ W.m (.slot i) := ne l1 (by intro z; subst z; cases so')
    rw [e1] at z
    rw [upd_ne z]
    exact e2
  · have z : b ≠ W.m (.slot i) := fun z => by
      rw [z, g.out _ li] at h; cases h
    rw [upd_ne z]
    exact g.gh b o h
  · have e'' : (st.env.set i sl')[j]? = some s' := e'
    by_cases q : i = j
    · subst q
      rw [List.getElem?_set_self lt] at e''; cases e''
      have r0 := g.slot i sl e
      have ex : (σ[i]?).join = some (V.ref (W.m (.slot i))) := by
        cases sl with
        | own ds => exact r0.1
        | ownd ds => exact r0.1
        | none => cases so
        | val d => cases so
        | exn c => cases so
      rw [ex]
      exact r
    · rw [List.getElem?_set_ne q] at e''
      exact (g.slot j s' e'').stay (.refl W) fun so => ⟨rfl, upd_ne (ne ⟨s', e'', so⟩ (by intro z; cases z; exact q rfl))⟩
  · exact (g.obj n ob e).stay (.refl W) (fun o l so => ⟨rfl, upd_ne (ne l (by intro z; subst z; cases so))⟩) e
  · show σ.length = (st.env.set i sl').length
    rw [List.length_set]
    exact g.len
end
end EV
namespace EV
open PySem PySem.Spec PyProof.Rows L2

/-! ### the small language -/
inductive BOp where
  | add | sub | mul | fdiv | mod | pow | shl | shr | band | bor | bxor
  deriving DecidableEq
inductive COp where
  | lt | le | gt | ge | eq | ne | is | isnot | inn | notin
  deriving DecidableEq
inductive UOp where
  | neg | inv
  deriving DecidableEq
inductive Blt where
  | abs | len | int | list | tuple | sum | maxl | minl | str | sorted
  deriving DecidableEq
inductive Blt2 where
  | max | min
  deriving DecidableEq
/-- types for isinstance: a built-in one, an exception's class -/
inductive Ty where
  | int | bool | str | list | tuple | dict
  deriving DecidableEq
/-- a part of a target: a slot, a field of the object in a slot -/
inductive Tp where
  | sl (i : Nat) | fl (i : Nat) (f : Str)
inductive Tg where
  | name (i : Nat) | tup (is : List Nat)
mutual
inductive E where
  | var (i : Nat) | cst (d : Dt) | glob (g : Nat)
  | bin (o : BOp) (a b : E) | cmp (o : COp) (a b : E) | chain (o p : COp) (a b c : E) | ix (a b : E) | un (o : UOp) (a : E)
  | not (a : E) | and (a b : E) | or (a b : E) | ife (t a b : E)
  | tup (es : Es) | lst (es : Es)
  | call (f : Nat) (es : Es) | blt (b : Blt) (a : E) | blt2 (b : Blt2) (a c : E) | isi (a : E) (t : Ty) | exi (i : Nat) (c : Nat)
  | comp (elt : E) (it : It) (tg : Tg) (cond : E) (own : List Nat)
  | frz (i : Nat) | mkbox (a : E) | app (a e : E)
  | find (a b : E) | pop (i : Nat) (e : E) | dnew | dix (a b : E) | din (g : Bool) (a b : E)
  | sset (a : E) | lrg1 (a : E) | lrg2 (a b : E) | idx (a b : E) | bits (a : E) | revl (a : E) | revs (a : E) | sl (a : E) (l : Bool) (lo : E) (h : Bool) (hi : E)
  | fld (a : E) (f : Str) | meth (a : E) (m : Str) (es : Es) | make (c g : Nat) (es : Es) | popl (a : E)
  | comp2 (elt : E) (it : It) (tg : Tg) (it1 : It) (tg1 : Tg) (own own1 : List Nat)
inductive Es where
  | nil | cons (e : E) (es : Es)
inductive It where
  | rng1 (a : E) | rng2 (a b : E) | seq (a : E) | enum (a : E) | zip (a b : E) | str (a : E)
end
mutual
inductive S where
  | asg (t : Tg) (own : Bool) (e : E) | aug (i : Nat) (o : BOp) (e : E) | setix (a i e : E) | dput (a i e : E)
  | setf (own : Bool) (a : E) (f : Str) (e : E) | augx (a i : E) (o : BOp) (e : E) | asgM (ts : List Tp) (e : E)
  | expr (e : E) | ret (e : E) | retN | iff (t : E) (a b : Ss) | for_ (t : Tg) (it : It) (body : Ss) | whl (t : E) (body : Ss)
  | raise (c : Nat) | try_ (body : Ss) (c : Nat) (i : Nat) (suite : Ss) | pass | brk | cont
inductive Ss where
  | nil | cons (s : S) (ss : Ss)
end

/-! ### values -/
inductive Fl where
  | nx | bk | ct | rt (h : Hd)
inductive CRes where
  | ok (h : Hd) (S : List Ob) | exc (c : Nat) (S : List Ob) | stuck
structure Gm where
  call : Nat → Bool → List Dt → List Ob → CRes
  fuel : Nat
  glob : Nat → Dt
  /-- is the exception class c below d -/
  sub : Nat → Nat → Bool
  nex : Nat
  /-- the classes: how many, a method's def -/
  ncl : Nat
  mth : Nat → Str → Option Nat

/-- a dict's entries: keys are ints and texts -/
def keyD : Dt → Option L2.Key
  | .int i => some (.inl i)
  | .str x => some (.inr x)
  | _ => none
def keyEq : Dt → Dt → Bool
  | .int i, .int j => decide (i = j)
  | .str x, .str y => decide (x = y)
  | _, _ => false
def dgetD (kvs : List (Dt × Dt)) (k : Dt) : Option Dt := (kvs.find? fun p => keyEq p.1 k).map (·.2)
def dputD (kvs : List (Dt × Dt)) (k v : Dt) : List (Dt × Dt) := if (kvs.any fun p => keyEq p.1 k) = true then kvs.map (fun p => if keyEq p.1 k = true then (p.1, v) else p) else kvs ++ [(k, v)]
def kvsOf (st : Sta) : Hd → Option (List (Dt × Dt))
  | .newd kvs => some kvs
  | .own i => (match st.env[i]? with
    | some (.ownd kvs) => some kvs
    | _ => none)
  | .fld n f => (match st.S[n]? with
    | some (.ins _ fs) => (match fs.lookup f with
      | some (.ownd kvs) => some kvs
      | _ => none)
    | _ => none)
  | _ => none
def seqOf (st : Sta) : Hd → Option (Bool × List Dt)
  | .val (.lst ds) => some (true, ds)
  | .val (.slst ds) => some (true, ds)
  | .val (.tup ds) => some (false, ds)
  | .new ds => some (true, ds)
  | .val (.box n) => (match st.S[n]? with
    | some (.lst ds) => some (true, ds)
    | _ => none)
  | .own i => (match st.env[i]? with
    | some (.own ds) => some (true, ds)
    | _ => none)
  | .fld n f => (match st.S[n]? with
    | some (.ins _ fs) => (match fs.lookup f with
      | some (.own ds) => some (true, ds)
      | _ => none)
    | _ => none)
  | _ => none
def lstOf (st : Sta) : Hd → Option (List Dt)
  | .val (.slst _) => none
  | h => (match seqOf st h with
    | some (true, ds) => some ds
    | _ => none)
def Hd.dt : Hd → Option Dt
  | .val d => some d
  | .new ds => some (.lst ds)
  | _ => none
def Hd.truth (st : Sta) : Hd → Option Bool
  | .val (.bl b) => some b
  | _ => none
mutual
def toPy : Dt → Option PyData
  | .non => some .none
  | .bl b => some (.bool b)
  | .int i => some (.int i)
  | .str x => some (.str x)
  | .tup ds => (toPys ds).map .tuple
  | .lst ds => (toPys ds).map .list
  | .slst ds => (toPys ds).map .list
  | .box _ => none
def toPys : List Dt → Option (List PyData)
  | [] => some []
  | d :: ds => (match toPy d, toPys ds with
    | some x, some xs => some (x :: xs)
    | _, _ => none)
end
def pyOf (st : Sta) (h : Hd) : Option PyData := match seqOf st h with
  | some (true, ds) => (toPys ds).map .list
  | some (false, ds) => (toPys ds).map .tuple
  | none => (match h with
    | .val d => toPy d
    | _ => none)
/-- the rest: equality of data -/
def eqGen (st : Sta) (x y : Hd) : Option Bool := match pyOf st x, pyOf st y with
  | some d, some e => if SeqAt.shaped d && SeqAt.shaped e then some (PyData.eqv d e) else none
  | _, _ => none
def eqD (st : Sta) (x y : Hd) : Option Bool := match x, y with
  | .val (.int i), .val (.int j) => some (decide (i = j))
  | .val (.bl i), .val (.bl j) => some (decide (i = j))
  | .val (.str i), .val (.str j) => some (decide (i = j))
  | x, y => eqGen st x y
def intsOf : List Dt → Option (List Int)
  | [] => some []
  | .int i :: ds => (intsOf ds).map (i :: ·)
  | _ :: _ => none
def flatD : Dt → Option V
  | .non => some .non
  | .bl b => some (.bl b)
  | .int i => some (.int i)
  | .str x => some (.str x)
  | _ => none
def flatsD : List Dt → Option (List V)
  | [] => some []
  | d :: ds => (match flatD d, flatsD ds with
    | some v, some vs => some (v :: vs)
    | _, _ => none)
/-- in: a sign in a text, a flat thing among flat ones, data among data -/
def inSign (a z : Str) : Option Bool := match a.cps.toList with
  | [c] => some (decide (c ∈ z.cps.toList))
  | _ => none
def inFlat (st : Sta) (x y : Hd) : Option Bool := match x, seqOf st y with
  | .val d, some (_, ds) => (match flatD d, flatsD ds with
    | some v, some vs => some (inV v vs)
    | _, _ => none)
  | _, _ => none
def inData (st : Sta) (x y : Hd) : Option Bool := match pyOf st x, pyOf st y with
  | some d, some (.list ds) => if SeqAt.shaped d && SeqAt.shaped (.list ds) then some (ds.any fun z => PyData.eqv z d) else none
  | _, _ => none
def inD (st : Sta) (x y : Hd) : Option Bool := match y with
  | .val (.str z) => (match x with
    | .val (.str a) => inSign a z
    | _ => none)
  | y => (match inFlat st x y with
    | some b => some b
    | none => inData st x y)
def mulOk (i j : Int) : Bool := (decide (-(2 ^ 64) < i) && decide (i < 2 ^ 64)) || (decide (-(2 ^ 64) < j) && decide (j < 2 ^ 64))
def binD (o : BOp) (st : Sta) (x y : Hd) : Option Hd := match o, x, y with
  | .add, .val (.int i), .val (.int j) => some (.val (.int (i + j)))
  | .sub, .val (.int i), .val (.int j) => some (.val (.int (i - j)))
  | .mul, .val (.int i), .val (.int j) => if mulOk i j then some (.val (.int (i * j))) else none
  | .fdiv, .val (.int i), .val (.int j) => if j ≠ 0 ∧ j.natAbs < 115792089237316195423570985008687907853269984665640564039457584007913129639936 then some (.val (.int (i.fdiv j))) else none
  | .mul, x, .val (.int k) => (match lstOf st x with
    | some xs => if -(2 ^ 63) ≤ k ∧ k < 2 ^ 63 ∧ xs.length * k.toNat ≤ sizeLine then some (.new (List.replicate k.toNat xs).flatten) else none
    | none => none)
  | .pow, .val (.int i), .val (.int j) => if 0 ≤ j ∧ j ≤ 1000000 ∧ i.natAbs < 2 ^ 64 then some (.val (.int (i ^ j.toNat))) else none
  | .add, .val (.tup xs), .val (.tup ys) => if xs.length + ys.length ≤ sizeLine then some (.val (.tup (xs ++ ys))) else none
  | .mod, .val (.int i), .val (.int j) => if j ≠ 0 then some (.val (.int (i.fmod j))) else none
  | .band, .val (.int i), .val (.int j) => some (.val (.int (Builtin.bitAnd i j)))
  | .bor, .val (.int i), .val (.int j) => some (.val (.int (Builtin.bitOr i j)))
  | .bxor, .val (.int i), .val (.int j) => some (.val (.int (Builtin.bitXor i j)))
  | .shl, .val (.int i), .val (.int j) => if 0 ≤ j ∧ j ≤ 1000000 ∧ i.natAbs < 2 ^ 64 then some (.val (.int (i * 2 ^ j.toNat))) else none
  | .shr, .val (.int i), .val (.int j) => if 0 ≤ j then some (.val (.int (i / 2 ^ j.toNat))) else none
  | .add, .val (.str i), .val (.str j) => if i.length + j.length ≤ sizeLine then some (.val (.str (i ++ j))) else none
  | .add, x, y => (match lstOf st x, lstOf st y with
    | some xs, some ys => if xs.length + ys.length ≤ sizeLine then some (.new (xs ++ ys)) else none
    | _, _ => none)
  | _, _, _ => none
def isNone : Hd → Option Bool
  | .val .non => some true
  | .val _ => some false
  | .new _ => some false
  | .newd _ => some false
  | _ => none
def cmpD (o : COp) (st : Sta) (x y : Hd) : Option Hd := match o with
  | .lt => (match x, y with
    | .val (.int i), .val (.int j) => some (.val (.bl (decide (i < j))))
    | _, _ => none)
  | .le => (match x, y with
    | .val (.int i), .val (.int j) => some (.val (.bl (decide (i ≤ j))))
    | _, _ => none)
  | .gt => (match x, y with
    | .val (.int i), .val (.int j) => some (.val (.bl (decide (j < i))))
    | _, _ => none)
  | .ge => (match x, y with
    | .val (.int i), .val (.int j) => some (.val (.bl (decide (j ≤ i))))
    | _, _ => none)
  | .eq => (eqD st x y).map fun b => .val (.bl b)
  | .ne => (eqD st x y).map fun b => .val (.bl (!b))
  | .is => (match y with
    | .val .non => (isNone x).map fun b => .val (.bl b)
    | _ => none)
  | .isnot => (match y with
    | .val .non => (isNone x).map fun b => .val (.bl (!b))
    | _ => none)
  | .inn => (inD st x y).map fun b => .val (.bl b)
  | .notin => (inD st x y).map fun b => .val (.bl (!b))
def ixD (st : Sta) (x y : Hd) : Option Hd := match y with
  | .val (.int i) => (match seqOf st x with
    | some (_, ds) => (atI ds i).map .val
    | none => (match x with
      | .val (.str z) => if z.length ≤ sizeLine then (atI z.cps.toList i).map fun c => .val (.str ⟨#[c]⟩) else none
      | _ => none))
  | _ => none
def augD (o : BOp) (i j : Int) : Option Int := match o with
  | .add => some (i + j)
  | .sub => some (i - j)
  | .mul => if mulOk i j then some (i * j) else none
  | .bor => some (Builtin.bitOr i j)
  | _ => none
def unD (o : UOp) (x : Hd) : Option Hd := match o, x with
  | .neg, .val (.int i) => some (.val (.int (-i)))
  | .inv, .val (.int i) => some (.val (.int (Builtin.bitNot i)))
  | _, _ => none
def absD : Hd → Option Hd
  | .val (.int i) => some (.val (.int (if i < 0 then -i else i)))
  | _ => none
def intD : Hd → Option Hd
  | .val (.int i) => some (.val (.int i))
  | .val (.bl k) => some (.val (.int (if k then 1 else 0)))
  | _ => none
def lenD (st : Sta) (x : Hd) : Option Hd := match seqOf st x with
  | some (_, ds) => some (.val (.int ds.length))
  | none => (match x with
    | .val (.str z) => if z.length ≤ sizeLine then some (.val (.int z.length)) else none
    | x => (kvsOf st x).map fun kvs => .val (.int kvs.length))
def listD (st : Sta) (x : Hd) : Option Hd := match seqOf st x with
  | some (_, ds) => some (.new ds)
  | none => none
def tupleD (st : Sta) (x : Hd) : Option Hd := match seqOf st x with
  | some (_, ds) => some (.val (.tup ds))
  | none => none
def intsH (st : Sta) (x : Hd) : Option (List Int) := match seqOf st x with
  | some (true, ds) => intsOf ds
  | _ => none
/-- the ints of a list or a tuple -/
def intsA (st : Sta) (x : Hd) : Option (List Int) := match seqOf st x with
  | some p => intsOf p.2
  | none => none
def sumD (st : Sta) (x : Hd) : Option Hd := (intsA st x).map fun ns => .val (.int ns.sum)
def maxI : Int → List Int → Int
  | m, [] => m
  | m, n :: ns => maxI (if m < n then n else m) ns
def minI : Int → List Int → Int
  | m, [] => m
  | m, n :: ns => minI (if n < m then n else m) ns
def maxlD (st : Sta) (x : Hd) : Option Hd := match intsA st x with
  | some (n :: ns) => some (.val (.int (maxI n ns)))
  | _ => none
def minlD (st : Sta) (x : Hd) : Option Hd := match intsA st x with
  | some (n :: ns) => some (.val (.int (minI n ns)))
  | _ => none
def strD : Hd → Option Hd
  | .val (.int i) => if i.natAbs.log2 < 1920 then some (.val (.str (Str.ofString (toString i)))) else none
  | _ => none
def sortI (ns : List Int) : List Int := ns.mergeSort fun a b => decide (a ≤ b)
def sortedD (st : Sta) (x : Hd) : Option Hd := (intsH st x).map fun ns => .new ((sortI ns).map .int)
def insU (k : Int) : List Int → List Int
  | [] => [k]
  | x :: xs => if k < x then k :: x :: xs else if k = x then x :: xs else x :: insU k xs
/-- the members, ascending, each once -/
def sortU (ns : List Int) : List Int := ns.foldr insU []
def ssetD (st : Sta) (x : Hd) : Option Hd := (intsH st x).bind fun ns => if ns.length < 64 then some (.new ((sortU ns).map .int)) else none
def bitsD : Hd → Option Hd
  | .val (.int i) => some (.val (.int (Builtin.Int.intBits i : Nat)))
  | _ => none
def revS (z : Str) : Str := ⟨z.cps.toList.reverse.toArray⟩
def revD (st : Sta) (x : Hd) : Option Hd := match seqOf st x with
  | some (true, ds) => some (.new ds.reverse)
  | _ => none
/-- a text read from its end -/
def revT : Hd → Option Hd
  | .val (.str z) => if z.length ≤ sizeLine then some (.val (.str (revS z))) else none
  | _ => none
def cutD {α : Type} (xs : List α) (lo hi : Option Int) : List α := List.take (HT.sIx xs.length xs.length hi - HT.sIx xs.length 0 lo) (List.drop (HT.sIx xs.length 0 lo) xs)
def slD (st : Sta) (x : Hd) (lo hi : Option Int) : Option Hd := match seqOf st x with
  | some (true, ds) => some (.new (cutD ds lo hi))
  | some (false, ds) => some (.val (.tup (cutD ds lo hi)))
  | none => (match x with
    | .val (.str z) => if z.length ≤ sizeLine then some (.val (.str (cutS z lo hi))) else none
    | _ => none)
def bltD (b : Blt) (st : Sta) (x : Hd) : Option Hd := match b with
  | .abs => absD x
  | .int => intD x
  | .len => lenD st x
  | .list => listD st x
  | .tuple => tupleD st x
  | .sum => sumD st x
  | .maxl => maxlD st x
  | .minl => minlD st x
  | .str => strD x
  | .sorted => sortedD st x
def maxD : Hd → Hd → Option Hd
  | .val (.int i), .val (.int j) => some (.val (.int (if j > i then j else i)))
  | _, _ => none
def minD : Hd → Hd → Option Hd
  | .val (.int i), .val (.int j) => some (.val (.int (if j < i then j else i)))
  | _, _ => none
def blt2D (b : Blt2) (x y : Hd) : Option Hd := match b with
  | .max => maxD x y
  | .min => minD x y
def tyOf (st : Sta) : Hd → Option String
  | .val .non => some "NoneType"
  | .val (.bl _) => some "bool"
  | .val (.int _) => some "int"
  | .val (.str _) => some "str"
  | .val (.tup _) => some "tuple"
  | .val (.lst _) => some "list"
  | .new _ => some "list"
  | .newd _ => some "dict"
  | .val (.box n) => (match st.S[n]? with
    | some (.lst _) => some "list"
    | some (.dct _) => some "dict"
    | _ => none)
  | .own i => (match st.env[i]? with
    | some (.own _) => some "list"
    | some (.ownd _) => some "dict"
    | _ => none)
  | _ => none
def tyN : Ty → String
  | .int => "int"
  | .bool => "bool"
  | .str => "str"
  | .list => "list"
  | .tuple => "tuple"
  | .dict => "dict"
def isiD (t : Ty) (st : Sta) (x : Hd) : Option Hd := (tyOf st x).bind fun u => (kitB u (tyN t)).map fun b => .val (.bl b)
def putS (f : Str) (x : Sl) : List (Str × Sl) → List (Str × Sl)
  | [] => [(f, x)]
  | (g, y) :: r => if g = f then (g, x) :: r else (g, y) :: putS f x r
/-- the instance at n -/
def Sta.setF (st : Sta) (n c : Nat) (fs : List (Str × Sl)) (f : Str) (x : Sl) : Sta := { st with S := st.S.set n (.ins c (putS f x fs)) }
/-- what changes at a handle that owns a list: the list, the changed state -/
def ownF (st : Sta) (n : Nat) (f : Str) : Option (Nat × List (Str × Sl) × Sl) := if st.ro then none else match st.S[n]? with
  | some (.ins c fs) => (match fs.lookup f with
    | some sl => some (c, fs, sl)
    | none => none)
  | _ => none
/-- xs.append(d) -/
def appD (st : Sta) (x : Hd) (d : Dt) : Option Sta := match x with
  | .own i => (match st.env[i]? with
    | some (.own ds) => if ds.length < sizeLine then some (st.setE i (.own (ds ++ [d]))) else none
    | _ => none)
  | .val (.box n) => if st.ro then none else (match st.S[n]? with
    | some (.lst ds) => if ds.length < sizeLine then some { st with S := st.S.set n (.lst (ds ++ [d])) } else none
    | _ => none)
  | .fld n f => (match ownF st n f with
    | some (c, fs, .own ds) => if ds.length < sizeLine then some (st.setF n c fs f (.own (ds ++ [d]))) else none
    | _ => none)
  | _ => none
/-- xs[i] = d -/
def setD (st : Sta) (x : Hd) (i : Int) (d : Dt) : Option Sta := match x with
  | .own k => (match st.env[k]? with
    | some (.own ds) => (ixN ds.length i).map fun j => st.setE k (.own (ds.set j d))
    | _ => none)
  | .val (.box n) => if st.ro then none else (match st.S[n]? with
    | some (.lst ds) => (ixN ds.length i).map fun j => { st with S := st.S.set n (.lst (ds.set j d)) }
    | _ => none)
  | .fld n f => (match ownF st n f with
    | some (c, fs, .own ds) => (ixN ds.length i).map fun j => st.setF n c fs f (.own (ds.set j d))
    | _ => none)
  | _ => none

def findD : Hd → Hd → Option Hd
  | .val (.str z), .val (.str w) => some (.val (.int (Txt.find z w)))
  | _, _ => none
/-- xs.pop(k), xs a slot's own list -/
def popD (st : Sta) (i : Nat) (y : Hd) : Option (Dt × Sta) := match y, st.env[i]? with
  | .val (.int k), some (.own ds) => if -(2 ^ 63) ≤ k ∧ k < 2 ^ 63 then (ixN ds.length k).bind fun j => (ds[j]?).map fun d => (d, st.setE i (.own (ds.eraseIdx j))) else none
  | _, _ => none
/-- xs[j] op= .. : what stands there; the changed state -/
def augG (st : Sta) (x y : Hd) : Option (Int × Int) := match y, lstOf st x with
  | .val (.int j), some ds => if 0 ≤ j then (match ds[j.toNat]? with
    | some (.int u) => some (u, j)
    | _ => none) else none
  | _, _ => none
def augS (o : BOp) (u j : Int) (x z : Hd) (st : Sta) : Option Sta := match z with
  | .val (.int v) => (augD o u v).bind fun w => setD st x j (.int w)
  | _ => none
/-- xs.pop() -/
def poplD (st : Sta) (x : Hd) : Option (Dt × Sta) := match x with
  | .own i => (match st.env[i]? with
    | some (.own ds) => (ds[ds.length - 1]?).map fun d => (d, st.setE i (.own ds.dropLast))
    | _ => none)
  | .fld n f => (match ownF st n f with
    | some (c, fs, .own ds) => (ds[ds.length - 1]?).map fun d => (d, st.setF n c fs f (.own ds.dropLast))
    | _ => none)
  | _ => none
def insOf (st : Sta) : Hd → Option (Nat × Nat × List (Str × Sl))
  | .val (.box n) => (match st.S[n]? with
    | some (.ins c fs) => some (n, c, fs)
    | _ => none)
  | _ => none
/-- o.f -/
def fldD (ncl : Nat) (st : Sta) (x : Hd) (f : Str) : Option Hd := match insOf st x with
  | some (n, c, fs) => if c < ncl then (match fs.lookup f with
    | some (.val d) => some (.val d)
    | some (.own _) => some (.fld n f)
    | some (.ownd _) => some (.fld n f)
    | _ => none) else none
  | none => none
/-- o.f = .. -/
def setfD (ncl : Nat) (st : Sta) (x : Hd) (f : Str) (sl : Sl) : Option Sta := match insOf st x with
  | some (n, c, fs) => if c < ncl ∧ st.ro = false ∧ fs.length < 1000 then some (st.setF n c fs f sl) else none
  | none => none
/-- what a field takes -/
def slOf (own : Bool) : Hd → Option Sl
  | .new ds => some (if own then .own ds else .val (.lst ds))
  | .newd kvs => if own then some (.ownd kvs) else none
  | .val d => if own then none else some (.val d)
  | _ => none
/-- o.m(..): the object, the method's def -/
def methD (ncl : Nat) (mth : Nat → Str → Option Nat) (st : Sta) (x : Hd) (m : Str) : Option (Nat × Nat) := match insOf st x with
  | some (n, c, fs) => if c < ncl ∧ (fs.lookup m).isNone = true then (mth c m).map fun g => (n, g) else none
  | none => none
/-- a target of slots and fields -/
def tpSet (ncl : Nat) : List Tp → List Dt → Sta → Option Sta
  | [], [], st => some st
  | .sl i :: ts, d :: ds, st => tpSet ncl ts ds (st.setE i (.val d))
  | .fl i f :: ts, d :: ds, st => (match st.env[i]? with
    | some (.val (.box n)) => (setfD ncl st (.val (.box n)) f (.val d)).bind fun st1 => tpSet ncl ts ds st1
    | _ => none)
  | _, _, _ => none
def dixD (st : Sta) (x y : Hd) : Option Hd := match y, kvsOf st x with
  | .val d, some kvs => if (keyD d).isSome = true then (dgetD kvs d).map .val else none
  | _, _ => none
def dinD (g : Bool) (st : Sta) (d : Dt) (y : Hd) : Option Hd := match kvsOf st y with
  | some kvs => if (keyD d).isSome = true then some (.val (.bl (if g then (dgetD kvs d).isSome else !(dgetD kvs d).isSome))) else none
  | none => none
/-- d[k] = v -/
def dputS (st : Sta) (x y : Hd) (d : Dt) : Option Sta := match x, y with
  | .own j, .val k => (match st.env[j]? with
    | some (.ownd kvs) => if (keyD k).isSome = true ∧ kvs.length < sizeLine then some (st.setE j (.ownd (dputD kvs k d))) else none
    | _ => none)
  | .fld n f, .val k => (match ownF st n f with
    | some (c, fs, .ownd kvs) => if (keyD k).isSome = true ∧ kvs.length < sizeLine then some (st.setF n c fs f (.ownd (dputD kvs k d))) else none
    | _ => none)
  | _, _ => none

/-! ### the evaluator -/
def ofO (st : Sta) : Option Hd → Res Hd
  | some h => .ok h st
  | none => .stuck
def Sta.setro (st : Sta) (b : Bool) : Sta := { st with ro := b }
def Res.setro {α : Type} (r : Res α) (b : Bool) : Res α := match r with
  | .ok a st => .ok a (st.setro b)
  | .exc c st => .exc c (st.setro b)
  | .stuck => .stuck
/-- what is run behind the value h: nothing of the store is changed if h is a field's own list -/
def behind {α : Type} (h : Hd) (f : Sta → Res α) (st : Sta) : Res α := if h.isFld then (f (st.setro true)).setro st.ro else f st
def Res.dt (r : Res Hd) : Res Dt := r.bind fun h st => match h.dt with
  | some d => .ok d st
  | none => .stuck
def Res.noexc {α : Type} : Res α → Res α
  | .ok a s => .ok a s
  | _ => .stuck
def Res.truth (r : Res Hd) : Res Bool := r.bind fun h st => match h.truth st with
  | some b => .ok b st
  | none => .stuck
/-- a target takes a value -/
def setTup : List Nat → List Dt → Sta → Option Sta
  | [], [], st => some st
  | i :: is, d :: ds, st => setTup is ds (st.setE i (.val d))
  | _, _, _ => none
def Tg.set (t : Tg) (st : Sta) (d : Dt) : Option Sta := match t with
  | .name i => some (st.setE i (.val d))
  | .tup is => (match d with
    | .tup ds => setTup is ds st
    | _ => none)
/-- what is walked -/
inductive Itv where
  | rng (lo : Int) (n : Nat) | seq (h : Hd) | enum (ds : List Dt) | zip (ds es : List Dt) | str (z : Str) | seqR (ds : List Dt) | enumR (ds : List Dt)
def Itv.at (v : Itv) (st : Sta) (k : Nat) : Option (Option Dt) := match v with
  | .rng lo n => some (if k < n then some (.int (lo + k)) else none)
  | .seq h => (seqOf st h).map fun p => p.2[k]?
  | .enum ds => some (ds[k]?.map fun d => .tup [.int k, d])
  | .zip ds es => some (match ds[k]?, es[k]? with
    | some d, some e => some (.tup [d, e])
    | _, _ => none)
  | .str z => some (z.cps[k]?.map fun c => .str ⟨#[c]⟩)
  | .seqR ds => some ds[k]?
  | .enumR ds => some (ds[k]?.map fun d => .tup [.int k, d])
def Itv.len (v : Itv) (st : Sta) : Nat := match v with
  | .rng _ n => n
  | .seq h => (match seqOf st h with
    | some p => p.2.length
    | none => 0)
  | .enum ds => ds.length
  | .zip ds _ => ds.length
  | .str z => z.cps.size
  | .seqR ds => ds.length
  | .enumR ds => ds.length
/-- what is walked stands in the store: nothing of the store is changed meanwhile -/
def Itv.isRo : Itv → Bool
  | .seqR _ => true
  | .enumR _ => true
  | _ => false
def Itv.guard {α : Type} (v : Itv) (m : Sta → Res α) (st : Sta) : Res α := if v.isRo then (m (st.setro true)).setro st.ro else m st
/-- a list of the store -/
def liveOf (st : Sta) : Hd → Option (List Dt)
  | .val (.box n) => lstOf st (.val (.box n))
  | .fld n f => lstOf st (.fld n f)
  | _ => none
def loopF (v : Itv) (body : Dt → Sta → Res Fl) : Nat → Nat → Sta → Res Fl
  | n, k, st => match v.at st k with
    | none => .stuck
    | some none => .ok .nx st
    | some (some d) => (match n with
      | 0 => .stuck
      | n + 1 => (body d st).bind fun fl st' => match fl with
        | .nx => loopF v body n (k + 1) st'
        | .ct => loopF v body n (k + 1) st'
        | .bk => .ok .nx st'
        | .rt h => .ok (.rt h) st')
def loopW (c : Sta → Res Bool) (body : Sta → Res Fl) : Nat → Sta → Res Fl
  | 0, _ => .stuck
  | n + 1, st => (c st).bind fun b st1 => if b then (body st1).bind fun fl st' => match fl with
      | .nx => loopW c body n st'
      | .ct => loopW c body n st'
      | .bk => .ok .nx st'
      | .rt h => .ok (.rt h) st'
    else .ok .nx st1
def wipeE : List Nat → List Sl → List Sl
  | [], env => env
  | i :: is, env => (wipeE is env).set i .none
def ownFree (own : List Nat) (env : List Sl) : Bool := own.all fun i => match env[i]? with
  | some sl => !sl.isOwn
  | none => false
/-- a comprehension: the items made so far -/
def loopC (v : Itv) (own : List Nat) (tg : Tg) (cond : Sta → Res Bool) (elt : Sta → Res Dt) : Nat → Nat → List Dt → Sta → Res (List Dt)
  | n, k, acc, st => match v.at st k with
    | none => .stuck
    | some none => .ok acc st
    | some (some d) => (match n, tg.set { st with env := wipeE own st.env } d with
      | n + 1, some st1 => (cond st1).bind fun b st2 => if b then (elt st2).bind fun x st3 => if acc.length < sizeLine then loopC v own tg cond elt n (k + 1) (acc ++ [x]) st3 else .stuck
        else loopC v own tg cond elt n (k + 1) acc st2
      | _, _ => .stuck)
/-- a comprehension of two clauses -/
def loopC2 (v : Itv) (own : List Nat) (tg : Tg) (mi : Sta → Res Itv) (own1 : List Nat) (tg1 : Tg) (elt : Sta → Res Dt) : Nat → Nat → List Dt → Sta → Res (List Dt)
  | n, k, acc, st => match v.at st k with
    | none => .stuck
    | some none => .ok acc st
    | some (some d) => (match n, tg.set { st with env := wipeE own st.env } d with
      | n + 1, some st1 => (mi st1).bind fun w st2 => if w.isRo then .stuck else (loopC w own1 tg1 (fun s => .ok true s) elt (w.len st2) 0 acc st2).bind fun acc' st3 => loopC2 v own tg mi own1 tg1 elt n (k + 1) acc' st3
      | _, _ => .stuck)
def putBack : List Nat → List Sl → List Sl → List Sl
  | [], _, env => env
  | i :: is, old, env => (putBack is old env).set i (old.getD i .none)
def smallR (lo hi : Int) : Bool := decide (-(2 ^ 62) ≤ lo) && (decide (lo < 2 ^ 62) && (decide (-(2 ^ 62) ≤ hi) && decide (hi < 2 ^ 62)))
def lstV : Hd → Option (List Dt)
  | .val (.lst ds) => some ds
  | .val (.slst ds) => some ds
  | .new ds => some ds
  | _ => none
def lstW : Dt → Option (List Dt)
  | .lst ds => some ds
  | .slst ds => some ds
  | _ => none
def rngL (i j : Int) : List Dt := (List.range (j - i).toNat).map fun (k : Nat) => Dt.int (i + k)
/-- list(range(i, j)) -/
def lrgD (i j : Int) : Option Hd := if smallR i j = true ∧ (j - i).toNat ≤ 16777216 then some (.new (rngL i j)) else none
def isLst (st : Sta) (x : Hd) : Bool := match seqOf st x with
  | some (true, _) => true
  | _ => false
/-- xs.index(y) -/
def idxF (st : Sta) (x y : Hd) : Option Nat := match y, seqOf st x with
  | .val d, some (true, ds) => (match flatD d, flatsD ds with
    | some v, some vs => vs.findIdx? fun z => eqV z v
    | _, _ => none)
  | _, _ => none
def idxP (st : Sta) (x y : Hd) : Option Nat := match pyOf st x, pyOf st y with
  | some (.list ds), some d => if SeqAt.shaped (.list ds) && SeqAt.shaped d then ds.findIdx? fun z => PyData.eqv z d else none
  | _, _ => none
def idxD (st : Sta) (x y : Hd) : Option Hd := match idxF st x y with
  | some j => some (.val (.int j))
  | none => (idxP st x y).map fun j => .val (.int j)
/-- a slice's part -/
def partR (l : Bool) (m : Sta → Res Hd) (st : Sta) : Res (Option Int) := if l then (m st).bind fun y st1 => (match y with
    | .val (.int i) => .ok (some i) st1
    | _ => .stuck) else .ok none st
mutual
def evE (Γ : Gm) : E → Sta → Res Hd
  | .var i, st => (match st.env[i]? with
    | some (.val d) => .ok (.val d) st
    | some (.own _) => .ok (.own i) st
    | some (.ownd _) => .ok (.own i) st
    | _ => .stuck)
  | .cst d, st => .ok (.val d) st
  | .glob g, st => .ok (.val (Γ.glob g)) st
  | .bin o a b, st => (evE Γ a st).bind fun x st1 => (behind x (evE Γ b) st1).bind fun y st2 => ofO st2 (binD o st2 x y)
  | .cmp o a b, st => (evE Γ a st).bind fun x st1 => (behind x (evE Γ b) st1).bind fun y st2 => ofO st2 (cmpD o st2 x y)
  | .ix a b, st => (evE Γ a st).bind fun x st1 => (behind x (evE Γ b) st1).bind fun y st2 => ofO st2 (ixD st2 x y)
  | .chain o p a b c, st => (evE Γ a st).bind fun x st1 => (behind x (evE Γ b) st1).bind fun y st2 => if y.isFld then .stuck else (ofO st2 (cmpD o st2 x y)).truth.bind fun k st3 =>
      if k then (behind y (evE Γ c) st3).bind fun z st4 => ofO st4 (cmpD p st4 y z) else .ok (.val (.bl false)) st3
  | .un o a, st => (evE Γ a st).bind fun x st1 => ofO st1 (unD o x)
  | .not a, st => (evE Γ a st).truth.bind fun b st1 => .ok (.val (.bl (!b))) st1
  | .and a b, st => (evE Γ a st).truth.bind fun k st1 => if k then evE Γ b st1 else .ok (.val (.bl false)) st1
  | .or a b, st => (evE Γ a st).truth.bind fun k st1 => if k then .ok (.val (.bl true)) st1 else evE Γ b st1
  | .ife t a b, st => (evE Γ t st).truth.bind fun k st1 => if k then evE Γ a st1 else evE Γ b st1
  | .tup es, st => (evEs Γ es st).bind fun ds st1 => if ds.length ≤ sizeLine then .ok (.val (.tup ds)) st1 else .stuck
  | .lst es, st => (evEs Γ es st).bind fun ds st1 => if ds.length ≤ sizeLine then .ok (.new ds) st1 else .stuck
  | .call f es, st => (evEs Γ es st).bind fun ds st1 => (match Γ.call f st1.ro ds st1.S with
    | .ok h S => .ok h { st1 with S := S }
    | .exc c S => .exc c { st1 with S := S }
    | .stuck => .stuck)
  | .blt b a, st => (evE Γ a st).bind fun x st1 => ofO st1 (bltD b st1 x)
  | .blt2 b a c, st => (evE Γ a st).bind fun x st1 => (behind x (evE Γ c) st1).bind fun y st2 => ofO st2 (blt2D b x y)
  | .isi a t, st => (evE Γ a st).bind fun x st1 => ofO st1 (isiD t st1 x)
  | .exi i c, st => (match st.env[i]? with
    | some (.exn d) => .ok (.val (.bl (Γ.sub d c))) st
    | _ => .stuck)
  | .comp elt it tg cond own, st => (evI Γ it st).bind fun v st1 => if ownFree own st1.env then v.guard (fun st0 =>
      (loopC v own tg (fun s => (evE Γ cond s).truth.noexc) (fun s => (evE Γ elt s).dt.noexc) (v.len st0) 0 [] st0).bind fun ds st2 =>
        .ok (.new ds) { st2 with env := putBack own st0.env st2.env }) st1 else .stuck
  | .comp2 elt it tg it1 tg1 own own1, st => (evI Γ it st).bind fun v st1 => if ownFree own st1.env && !v.isRo then
      (loopC2 v own tg (fun s => (evI Γ it1 s).noexc) own1 tg1 (fun s => (evE Γ elt s).dt.noexc) (v.len st1) 0 [] st1).bind fun ds st2 =>
        .ok (.new ds) { st2 with env := putBack own st1.env st2.env } else .stuck
  | .find a b, st => (evE Γ a st).bind fun x st1 => (match x with
    | .val (.str z) => (evE Γ b st1).bind fun y st2 => ofO st2 (findD (.val (.str z)) y)
    | _ => .stuck)
  | .pop i e, st => (match st.env[i]? with
    | some (.own _) => (evE Γ e st).bind fun y st1 => (match popD st1 i y with
      | some p => .ok (.val p.1) p.2
      | none => .stuck)
    | _ => .stuck)
  | .dnew, st => .ok (.newd []) st
  | .dix a b, st => (evE Γ a st).bind fun x st1 => (behind x (evE Γ b) st1).bind fun y st2 => ofO st2 (dixD st2 x y)
  | .din g a b, st => (evE Γ a st).bind fun x st1 => (match x with
    | .val d => (evE Γ b st1).bind fun y st2 => ofO st2 (dinD g st2 d y)
    | _ => .stuck)
  | .sset a, st => (evE Γ a st).bind fun x st1 => ofO st1 (ssetD st1 x)
  | .lrg1 a, st => (evE Γ a st).bind fun x st1 => (match x with
    | .val (.int j) => ofO st1 (lrgD 0 j)
    | _ => .stuck)
  | .lrg2 a b, st => (evE Γ a st).bind fun x st1 => (evE Γ b st1).bind fun y st2 => (match x, y with
    | .val (.int i), .val (.int j) => ofO st2 (lrgD i j)
    | _, _ => .stuck)
  | .idx a b, st => (evE Γ a st).bind fun x st1 => if isLst st1 x then (behind x (evE Γ b) st1).bind fun y st2 => ofO st2 (idxD st2 x y) else .stuck
  | .bits a, st => (evE Γ a st).bind fun x st1 => ofO st1 (bitsD x)
  | .revl a, st => (evE Γ a st).bind fun x st1 => ofO st1 (revD st1 x)
  | .revs a, st => (evE Γ a st).bind fun x st1 => ofO st1 (revT x)
  | .sl a l lo h hi, st => (evE Γ a st).bind fun x st1 => (behind x (fun s => (partR l (evE Γ lo) s).bind fun i s1 => (partR h (evE Γ hi) s1).bind fun j s2 => .ok (i, j) s2) st1).bind fun p st2 => ofO st2 (slD st2 x p.1 p.2)
  | .frz i, st => (match st.env[i]? with
    | some (.own ds) => .ok (.val (.lst ds)) (st.setE i (.val (.lst ds)))
    | some (.val (.lst ds)) => .ok (.val (.lst ds)) st
    | _ => .stuck)
  | .mkbox a, st => (evE Γ a st).bind fun x st1 => (match x with
    | .new ds => .ok (.val (.box st1.S.length)) { st1 with S := st1.S ++ [.lst ds] }
    | _ => .stuck)
  | .fld a f, st => (evE Γ a st).bind fun x st1 => ofO st1 (fldD Γ.ncl st1 x f)
  | .meth a m es, st => (evE Γ a st).bind fun x st1 => (match methD Γ.ncl Γ.mth st1 x m with
    | some (n, g) => (evEs Γ es st1).bind fun ds st2 => (match Γ.call g st2.ro (.box n :: ds) st2.S with
      | .ok h S => .ok h { st2 with S := S }
      | .exc c S => .exc c { st2 with S := S }
      | .stuck => .stuck)
    | none => .stuck)
  | .make c g es, st => (evEs Γ es st).bind fun ds st1 => if st1.ro then .stuck else (match Γ.call g st1.ro (.box st1.S.length :: ds) (st1.S ++ [.ins c []]) with
    | .ok (.val .non) S => .ok (.val (.box st1.S.length)) { st1 with S := S }
    | .exc e S => .exc e { st1 with S := S }
    | _ => .stuck)
  | .popl a, st => (evE Γ a st).bind fun x st1 => (match poplD st1 x with
    | some p => .ok (.val p.1) p.2
    | none => .stuck)
  | .app a e, st => (evE Γ a st).bind fun x st1 => if (lstOf st1 x).isSome then (behind x (fun s => (evE Γ e s).dt) st1).bind fun d st2 => (match appD st2 x d with
      | some st3 => .ok (.val .non) st3
      | none => .stuck)
    else .stuck
def evEs (Γ : Gm) : Es → Sta → Res (List Dt)
  | .nil, st => .ok [] st
  | .cons e es, st => (evE Γ e st).dt.bind fun d st1 => (evEs Γ es st1).bind fun ds st2 => .ok (d :: ds) st2
def evI (Γ : Gm) : It → Sta → Res Itv
  | .rng1 a, st => (evE Γ a st).bind fun x st1 => (match x with
    | .val (.int j) => if smallR 0 j then .ok (.rng 0 j.toNat) st1 else .stuck
    | _ => .stuck)
  | .rng2 a b, st => (evE Γ a st).bind fun x st1 => (evE Γ b st1).bind fun y st2 => (match x, y with
    | .val (.int i), .val (.int j) => if smallR i j then .ok (.rng i (j - i).toNat) st2 else .stuck
    | _, _ => .stuck)
  | .seq a, st => (evE Γ a st).bind fun x st1 => (match x with
    | .val (.lst ds) => .ok (.seq (.val (.lst ds))) st1
    | .val (.slst ds) => .ok (.seq (.val (.slst ds))) st1
    | .val (.tup ds) => .ok (.seq (.val (.tup ds))) st1
    | .new ds => .ok (.seq (.val (.lst ds))) st1
    | x => (match liveOf st1 x with
      | some ds => .ok (.seqR ds) st1
      | none => .stuck))
  | .enum a, st => (evE Γ a st).bind fun x st1 => (match lstV x, liveOf st1 x with
    | some ds, _ => .ok (.enum ds) st1
    | none, some ds => .ok (.enumR ds) st1
    | none, none => .stuck)
  | .zip a b, st => (evE Γ a st).dt.bind fun x st1 => (evE Γ b st1).dt.bind fun y st2 => (match lstW x, lstW y with
    | some ds, some es => .ok (.zip ds es) st2
    | _, _ => .stuck)
  | .str a, st => (evE Γ a st).bind fun x st1 => (match x with
    | .val (.str z) => .ok (.str z) st1
    | _ => .stuck)
end
def Fl.vn : Fl → Bool
  | .rt (.own _) => false
  | .rt (.fld _ _) => false
  | _ => true
def noExn (env : List Sl) : Bool := env.all fun sl => match sl with
  | .exn _ => false
  | _ => true
mutual
def evS (Γ : Gm) : S → Sta → Res Fl
  | .asg t own e, st => (evE Γ e st).bind fun x st1 => (if own then (match t, x with
      | .name i, .new ds => if i < st1.env.length then .ok .nx (st1.setE i (.own ds)) else .stuck
      | .name i, .newd kvs => if i < st1.env.length then .ok .nx (st1.setE i (.ownd kvs)) else .stuck
      | _, _ => .stuck)
    else (match x.dt with
      | some d => (match t.set st1 d with
        | some st2 => .ok .nx st2
        | none => .stuck)
      | none => .stuck))
  | .aug i o e, st => (match st.env[i]? with
    | some (.val (.int a)) => (evE Γ e st).bind fun y st1 => (match y with
      | .val (.int b) => (match augD o a b with
        | some c => .ok .nx (st1.setE i (.val (.int c)))
        | none => .stuck)
      | _ => .stuck)
    | _ => .stuck)
  | .setix a i e, st => (evE Γ e st).dt.bind fun d st1 => (evE Γ a st1).bind fun x st2 => (behind x (evE Γ i) st2).bind fun y st3 => (match y with
    | .val (.int k) => (match setD st3 x k d with
      | some st4 => .ok .nx st4
      | none => .stuck)
    | _ => .stuck)
  | .dput a i e, st => (evE Γ e st).dt.bind fun d st1 => (evE Γ a st1).bind fun x st2 => (behind x (evE Γ i) st2).bind fun y st3 => (match dputS st3 x y d with
      | some st4 => .ok .nx st4
      | none => .stuck)
  | .setf own a f e, st => (evE Γ e st).bind fun x st1 => (evE Γ a st1).bind fun y st2 => (match (slOf own x).bind (setfD Γ.ncl st2 y f) with
    | some st3 => .ok .nx st3
    | none => .stuck)
  | .augx a i o e, st => (evE Γ a st).bind fun x st1 => (behind x (evE Γ i) st1).bind fun y st2 => (match augG st2 x y with
    | some (u, j) => (behind x (evE Γ e) st2).bind fun z st3 => (match augS o u j x z st3 with
      | some st4 => .ok .nx st4
      | none => .stuck)
    | none => .stuck)
  | .asgM ts e, st => (evE Γ e st).bind fun x st1 => (match x with
    | .val (.tup ds) => (match tpSet Γ.ncl ts ds st1 with
      | some st2 => .ok .nx st2
      | none => .stuck)
    | _ => .stuck)
  | .expr e, st => (evE Γ e st).bind fun _ st1 => .ok .nx st1
  | .ret e, st => (evE Γ e st).bind fun x st1 => (match x with
    | .val d => .ok (.rt (.val d)) st1
    | .new ds => .ok (.rt (.new ds)) st1
    | .newd ds => .ok (.rt (.newd ds)) st1
    | .own i => (match st1.env[i]? with
      | some (.own ds) => .ok (.rt (.new ds)) (st1.setE i .none)
      | _ => .stuck)
    | _ => .stuck)
  | .retN, st => .ok (.rt (.val .non)) st
  | .iff t a b, st => (evE Γ t st).truth.bind fun k st1 => if k then evSs Γ a st1 else evSs Γ b st1
  | .for_ t it body, st => (evI Γ it st).bind fun v st1 => v.guard (fun st0 => loopF v (fun d s => match t.set s d with
      | some s1 => evSs Γ body s1
      | none => .stuck) (v.len st0) 0 st0) st1
  | .whl t body, st => loopW (fun s => (evE Γ t s).truth) (fun s => evSs Γ body s) Γ.fuel st
  | .raise c, st => .exc c st
  | .try_ body c i suite, st => (match evSs Γ body st with
    | .ok fl st1 => .ok fl st1
    | .exc d st1 => if d < Γ.nex then if Γ.sub d c then (evSs Γ suite (st1.setE i (.exn d))).noexc.bind fun fl st2 => if fl.vn && noExn (st2.setE i .none).env then .ok fl (st2.setE i .none) else .stuck else .exc d st1 else .stuck
    | .stuck => .stuck)
  | .pass, st => .ok .nx st
  | .brk, st => .ok .bk st
  | .cont, st => .ok .ct st
def evSs (Γ : Gm) : Ss → Sta → Res Fl
  | .nil, st => .ok .nx st
  | .cons s ss, st => (evS Γ s st).bind fun fl st1 => match fl with
    | .nx => evSs Γ ss st1
    | fl => .ok fl st1
end
/-- a def: how many slots, its body -/
structure Fn where
  n : Nat
  body : Ss
def runB (Γ : Gm) (f : Fn) (ro : Bool) (ds : List Dt) (S : List Ob) : CRes :=
  match evSs Γ f.body ⟨ds.map .val ++ List.replicate (f.n - ds.length) .none, S, ro⟩ with
  | .ok (.rt h) st => if (Fl.rt h).vn then .ok h st.S else .stuck
  | .ok .nx st => .ok (.val .non) st.S
  | .exc c st => .exc c st.S
  | _ => .stuck
structure Prg where
  fn : Nat → Fn
  ar : Nat → Nat
  fuel : Nat
  glob : Nat → Dt
  sub : Nat → Nat → Bool
  nex : Nat
  ncl : Nat
  mth : Nat → Str → Option Nat
def run (p : Prg) : Nat → Nat → Bool → List Dt → List Ob → CRes
  | 0 => fun _ _ _ _ => .stuck
  | k + 1 => fun f ro ds S => if ds.length = p.ar f then runB ⟨run p k, p.fuel, p.glob, p.sub, p.nex, p.ncl, p.mth⟩ (p.fn f) ro ds S else .stuck
end EV
namespace EV
open PySem PySem.Spec PyProof.Rows L2
section
variable (K : PySem.W.Frag) (ca : Ci) (ec : Nat → Addr) (wx : WX)
/-- what is wanted behind a run from (W, st, H) -/
def Post {α : Type} (W : Wd) (st : Sta) (σ : L2.St) (H : Hp) (r : Res α) (P : Wd → Sta → Hp → α → Prop) : Prop :=
  match r with
  | .ok a st' => ∀ W' H', Frm W st H W' st' H' → Good K ca W' st' σ H' → P W' st' H' a
  | .exc c st' => ∀ W' H', Frm W st H W' st' H' → Good K ca W' st' σ H' → wx (.ref (ec c)) none σ H'
  | .stuck => False
def PostS {α : Type} (W : Wd) (st : Sta) (H : Hp) (r : Res α) (P : Wd → Sta → L2.St → Hp → α → Prop) : Prop :=
  match r with
  | .ok a st' => ∀ W' σ' H', Frm W st H W' st' H' → Good K ca W' st' σ' H' → P W' st' σ' H' a
  | .exc c st' => ∀ W' σ' H', Frm W st H W' st' H' → Good K ca W' st' σ' H' → wx (.ref (ec c)) none σ' H'
  | .stuck => False
def tE (m : Sta → Res Hd) : TE := fun σ H Q => ∃ W st, Good K ca W st σ H ∧ Post K ca ec wx W st σ H (m st) fun W' st' H' h => ∀ v, RepH K W st H W' st' σ H' v h → Q v H'
def tT (m : Sta → Res Bool) : TT := fun σ H Q => ∃ W st, Good K ca W st σ H ∧ Post K ca ec wx W st σ H (m st) fun _ _ H' b => Q b H'
def tA (m : Sta → Res (List Dt)) : TA := fun σ H Q => ∃ W st, Good K ca W st σ H ∧ Post K ca ec wx W st σ H (m st) fun W' _ H' ds => ∀ vs, Reps K W' vs ds → Q vs H'
def flowP (W : Wd) (st : Sta) (H : Hp) (D : Ends) : Wd → Sta → L2.St → Hp → Fl → Prop := fun W' st' σ' H' fl => match fl with
  | .nx => D.nx σ' H'
  | .bk => D.bk σ' H'
  | .ct => D.ct σ' H'
  | .rt h => ∀ v, RepH K W st H W' st' σ' H' v h → D.rt v H'
def tS (m : Sta → Res Fl) : TS := fun D σ H => ∃ W st, Good K ca W st σ H ∧ PostS K ca ec wx W st H (m st) (flowP K W st H D)
/-- an operation on two values -/
def rD (op : Sta → Hd → Hd → Option Hd) : R2 := fun x y H Q => ∃ W st σ W1 st1 H1 W2 st2 H2 hx hy h, Good K ca W st σ H ∧ RepH K W1 st1 H1 W st σ H x hx ∧ RepH K W2 st2 H2 W st σ H y hy ∧ op st hx hy = some h ∧
  ∀ W' H' v, Frm W st H W' st H' → Good K ca W' st σ H' → RepH K W st H W' st σ H' v h → Q v H'
def rD1 (op : Sta → Hd → Option Hd) : V → Hp → VK → Prop := fun x H Q => ∃ W st σ W1 st1 H1 hx h, Good K ca W st σ H ∧ RepH K W1 st1 H1 W st σ H x hx ∧ op st hx = some h ∧
  ∀ W' H' v, Frm W st H W' st H' → Good K ca W' st σ H' → RepH K W st H W' st σ H' v h → Q v H'
end
section
variable {K : PySem.W.Frag} {ca : Ci} {ec : Nat → Addr} {wx : WX} {W W0 W1 : Wd} {st st0 st1 : Sta} {σ : L2.St} {H H0 H1 : Hp} {α β : Type}
theorem Post.mono {r : Res α} {P P' : Wd → Sta → Hp → α → Prop} (h : Post K ca ec wx W st σ H r P) (f : ∀ W' st' H' a, Frm W st H W' st' H' → Good K ca W' st' σ H' → P W' st' H' a → P' W' st' H' a) : Post K ca ec wx W st σ H r P' := by
  cases r with
  | ok a st' => exact fun W' H' fr g => f _ _ _ _ fr g (h W' H' fr g)
  | exc c st' => exact h
  | stuck => exact h
theorem Post.rebase {r : Res α} {P : Wd → Sta → Hp → α → Prop} (f : Frm W st H W1 st1 H1) (h : Post K ca ec wx W st σ H r P) : Post K ca ec wx W1 st1 σ H1 r P := by
  cases r with
  | ok a st' => exact fun W' H' fr g => h W' H' (f.trans fr) g
  | exc c st' => exact fun W' H' fr g => h W' H' (f.trans fr) g
  | stuck => exact h
theorem Post.bind {r : Res α} {f : α → Sta → Res β} {P : Wd → Sta → Hp → β → Prop} (h : Post K ca ec wx W st σ H (r.bind f) P) :
    Post K ca ec wx W st σ H r fun W' st' H' a => Post K ca ec wx W' st' σ H' (f a st') P := by
  cases r with
  | ok a st' => exact fun W' H' fr g => Post.rebase fr (show Post K ca ec wx W st σ H (f a st') P from h)
  | exc c st' => exact h
  | stuck => exact h
theorem PostS.mono {r : Res α} {P P' : Wd → Sta → L2.St → Hp → α → Prop} (h : PostS K ca ec wx W st H r P) (f : ∀ W' st' σ' H' a, Frm W st H W' st' H' → Good K ca W' st' σ' H' → P W' st' σ' H' a → P' W' st' σ' H' a) : PostS K ca ec wx W st H r P' := by
  cases r with
  | ok a st' => exact fun W' σ' H' fr g => f _ _ _ _ _ fr g (h W' σ' H' fr g)
  | exc c st' => exact h
  | stuck => exact h
theorem PostS.rebase {r : Res α} {P : Wd → Sta → L2.St → Hp → α → Prop} (f : Frm W st H W1 st1 H1) (h : PostS K ca ec wx W st H r P) : PostS K ca ec wx W1 st1 H1 r P := by
  cases r with
  | ok a st' => exact fun W' σ' H' fr g => h W' σ' H' (f.trans fr) g
  | exc c st' => exact fun W' σ' H' fr g => h W' σ' H' (f.trans fr) g
  | stuck => exact h
theorem PostS.bind {r : Res α} {f : α → Sta → Res β} {P : Wd → Sta → L2.St → Hp → β → Prop} (h : PostS K ca ec wx W st H (r.bind f) P) :
    PostS K ca ec wx W st H r fun W' st' _ H' a => PostS K ca ec wx W' st' H' (f a st') P := by
  cases r with
  | ok a st' => exact fun W' σ' H' fr g => PostS.rebase fr (show PostS K ca ec wx W st H (f a st') P from h)
  | exc c st' => exact h
  | stuck => exact h
/-- an expression's run within a statement's -/
theorem PostS.toE {r : Res α} {f : α → Sta → Res β} {P : Wd → Sta → L2.St → Hp → β → Prop} (h : PostS K ca ec wx W st H (r.bind f) P) :
    Post K ca ec wx W st σ H r fun W' st' H' a => PostS K ca ec wx W' st' H' (f a st') P := by
  cases r with
  | ok a st' => exact fun W' H' fr g => PostS.rebase fr (show PostS K ca ec wx W st H (f a st') P from h)
  | exc c st' => exact fun W' H' fr g => h W' σ H' fr g
  | stuck => exact h
theorem Good.setro {b : Bool} (g : Good K ca W st σ H) : Good K ca W (st.setro b) σ H := ⟨g.gh, g.inj, g.out, g.slot, g.obj, g.len, g.nb, g.xa⟩
theorem RepH.setro {b b0 : Bool} {v : V} {h : Hd} (r : RepH K W0 st0 H0 W st σ H v h) : RepH K W0 (st0.setro b0) H0 W (st.setro b) σ H v h := by
  cases h <;> exact r
/-- what is run behind a value -/
theorem behind_run {m : Sta → Res α} {P : Wd → Sta → Hp → α → Prop} {v : V} {x : Hd} (g : Good K ca W1 st1 σ H1) (r : RepH K W0 st0 H0 W1 st1 σ H1 v x) (h : Post K ca ec wx W1 st1 σ H1 (behind x m st1) P) :
    ∃ st1', Good K ca W1 st1' σ H1 ∧ (∀ b, RepH K W1 (st1'.setro b) H1 = RepH K W1 (st1.setro b) H1) ∧ Post K ca ec wx W1 st1' σ H1 (m st1') fun W2 st2' H2 y => ∃ b, Good K ca W2 (st2'.setro b) σ H2 ∧ Frm W1 st1 H1 W2 (st2'.setro b) H2 ∧ RepH K W0 st0 H0 W2 (st2'.setro b) σ H2 v x ∧ P W2 (st2'.setro b) H2 y := by
  unfold behind at h
  by_cases hf : x.isFld = true
  · rw [if_pos hf] at h
    refine ⟨st1.setro true, g.setro, fun b => rfl, ?_⟩
    have up : ∀ {W' : Wd} {st' : Sta} {H' : Hp}, Frm W1 (st1.setro true) H1 W' st' H' → Frm W1 st1 H1 W' (st'.setro st1.ro) H' := fun {W' st' H'} fr =>
      ⟨fr.ext, fr.keep, fr.dom, fr.fresh, fr.gnew, rfl, fun _ => fr.roS rfl, fun _ => fr.roM rfl⟩
    cases e : m (st1.setro true) with
    | ok a st' =>
      rw [e] at h
      intro W' H' fr g'
      refine ⟨st1.ro, g'.setro, up fr, ?_, h W' H' (up fr) g'.setro⟩
      exact (RepH.stay (st := st1.setro true) fr (show RepH K W0 st0 H0 W1 (st1.setro true) σ H1 v x from RepH.setro (st0 := st0) (b0 := st0.ro) r) fun _ => rfl).setro (b := st1.ro) (b0 := st0.ro)
    | exc c st' =>
      rw [e] at h
      exact fun W' H' fr g' => h W' H' (up fr) g'.setro
    | stuck => rw [e] at h; exact h
  · rw [if_neg hf] at h
    refine ⟨st1, g, fun b => rfl, h.mono fun W' st' H' a fr g' p => ⟨st'.ro, g', fr, r.stay fr (fun z => absurd z hf), p⟩⟩
end
section
variable {K : PySem.W.Frag} {ca : Ci} {W W0 W1 W2 : Wd} {st st0 st1 st2 : Sta} {σ : L2.St} {H H0 H1 H2 : Hp} {v : V} {h : Hd} {b : Bool} {ds : List Dt}
theorem Same.rd {H H' : Hp} (e : Same H H') {a : Addr} {o : HO} (h : H a = some o) : H' a = some o := e _ _ h
theorem FldRel.look {n : Nat} {f : Str} {sl : Sl} : ∀ {us : List (Str × V)} {fs : List (Str × Sl)}, FldRel K W H n us fs → fs.lookup f = some sl → ∃ v, us.lookup f = some v ∧ SlRel K W H (.fld n f) (some v) sl ∧ sl.fit = true
  | _, _, .nil, e => by simp at e
  | _, _, .cons (f := g) (v := w) nn r t, e => by
    rw [List.lookup_cons] at e
    rw [List.lookup_cons]
    by_cases q : f = g
    · subst q
      simp at e
      subst e
      exact ⟨w, by simp, r, nn⟩
    · have z : (f == g) = false := beq_eq_false_iff_ne.mpr q
      rw [z] at e ⊢
      exact FldRel.look t e
theorem seq_rel (g : Good K ca W st σ H) (r : RepH K W0 st0 H0 W st σ H v h) (e : seqOf st h = some (b, ds)) :
    ∃ a vs, v = .ref a ∧ Reps K W vs ds ∧ (b = true → SqL K H a vs) ∧ (b = false → SqT K H a vs) ∧ (lstOf st h = some ds → H a = some (.lst vs)) := by
  unfold seqOf at e
  split at e
  · cases e
    cases r with
    | lst s t => exact ⟨_, _, rfl, t, fun _ => SqL.of (g.gh _ _ s), (fun z => nomatch z), fun _ => g.gh _ _ s⟩
  · cases e
    cases r with
    | slst s t => exact ⟨_, _, rfl, t, fun _ => g.gh.seq s, (fun z => nomatch z), (fun z => nomatch z)⟩
  · cases e
    cases r with
    | tup s t => exact ⟨_, _, rfl, t, (fun z => nomatch z), fun _ => sameT g.gh s, (fun z => nomatch z)⟩
  · cases e
    obtain ⟨p, vs, rfl, h1, h2, _⟩ := r
    exact ⟨p, vs, rfl, h2, fun _ => SqL.of h1, (fun z => nomatch z), fun _ => h1⟩
  · rename_i n
    split at e
    · cases e
      rename_i ds' q
      obtain ⟨vs, h1, h2⟩ := g.obj n _ q
      cases r
      exact ⟨_, vs, rfl, h2, fun _ => SqL.of h1, (fun z => nomatch z), fun _ => h1⟩
    · cases e
  · rename_i i
    split at e
    · cases e
      rename_i ds' q
      obtain ⟨e1, vs, h1, h2⟩ := g.slot i _ q
      have r' : σ[i]? = some (some v) := r
      rw [r'] at e1
      have e2 : v = .ref (W.m (.slot i)) := Option.some.inj e1
      exact ⟨_, vs, e2, h2, fun _ => SqL.of h1, (fun z => nomatch z), fun _ => h1⟩
    · cases e
  · rename_i n f
    split at e
    · rename_i c fs q
      split at e
      · cases e
        rename_i ds' q2
        obtain ⟨us, h1, h2, h3, h4⟩ := g.obj n _ q
        obtain ⟨x, e1, r1, _⟩ := h3.look q2
        obtain ⟨e2, vs, h5, h6⟩ := r1
        exact ⟨_, vs, r.1, h6, fun _ => SqL.of h5, (fun z => nomatch z), fun _ => h5⟩
      · cases e
    · cases e
  · cases e
theorem keyD_eq : ∀ {d e : Dt} {k k' : L2.Key}, keyD d = some k → keyD e = some k' → keyEq d e = decide (k = k')
  | .int i, .int j, _, _, h, h' => by cases h; cases h'; simp [keyEq]
  | .str i, .str j, _, _, h, h' => by cases h; cases h'; simp [keyEq]
  | .int i, .str j, _, _, h, h' => by cases h; cases h'; simp [keyEq]
  | .str i, .int j, _, _, h, h' => by cases h; cases h'; simp [keyEq]
theorem KReps.length {us : List (L2.Key × V)} {kvs : List (Dt × Dt)} (r : KReps K W us kvs) : us.length = kvs.length := by
  induction r with
  | nil => rfl
  | int _ _ ih => exact congrArg (· + 1) ih
  | str _ _ ih => exact congrArg (· + 1) ih
theorem dgetD_cons {p : Dt × Dt} {kvs : List (Dt × Dt)} {d : Dt} : dgetD (p :: kvs) d = if keyEq p.1 d = true then some p.2 else dgetD kvs d := by
  unfold dgetD
  rw [List.find?_cons]
  cases keyEq p.1 d <;> rfl
theorem valV_cons {p : L2.Key × V} {us : List (L2.Key × V)} {k : L2.Key} : valV (p :: us) k = if p.1 = k then some p.2 else valV us k := by
  by_cases h : p.1 = k
  · rw [valV_pos h, if_pos h]
  · rw [valV_neg h, if_neg h]
theorem KReps.get {us : List (L2.Key × V)} {kvs : List (Dt × Dt)} {d : Dt} {k : L2.Key} (r : KReps K W us kvs) (hk : keyD d = some k) :
    (dgetD kvs d = none ∧ valV us k = none) ∨ ∃ x v, dgetD kvs d = some x ∧ valV us k = some v ∧ Rep K W v x := by
  have step : ∀ {k' : L2.Key} {e x : Dt} {v : V} {us : List (L2.Key × V)} {kvs : List (Dt × Dt)}, keyD e = some k' → Rep K W v x → ((dgetD kvs d = none ∧ valV us k = none) ∨ ∃ x v, dgetD kvs d = some x ∧ valV us k = some v ∧ Rep K W v x) →
      ((dgetD ((e, x) :: kvs) d = none ∧ valV ((k', v) :: us) k = none) ∨ ∃ x' v', dgetD ((e, x) :: kvs) d = some x' ∧ valV ((k', v) :: us) k = some v' ∧ Rep K W v' x') := by
    intro k' e x v us kvs he rv ih
    rw [dgetD_cons, valV_cons, keyD_eq he hk]
    by_cases h : k' = k
    · rw [if_pos (decide_eq_true h), if_pos h]
      exact .inr ⟨x, v, rfl, rfl, rv⟩
    · rw [if_neg (by simpa using h), if_neg h]
      exact ih
  induction r with
  | nil => exact .inl ⟨rfl, rfl⟩
  | int rv _ ih => exact step rfl rv ih
  | str rv _ ih => exact step rfl rv ih
theorem KReps.any {us : List (L2.Key × V)} {kvs : List (Dt × Dt)} {d : Dt} {k : L2.Key} (r : KReps K W us kvs) (hk : keyD d = some k) : (us.any fun p => decide (p.1 = k)) = kvs.any fun p => keyEq p.1 d := by
  induction r with
  | nil => rfl
  | int rv _ ih => rw [List.any_cons, List.any_cons, ih, keyD_eq rfl hk]
  | str rv _ ih => rw [List.any_cons, List.any_cons, ih, keyD_eq rfl hk]
theorem KReps.put {us : List (L2.Key × V)} {kvs : List (Dt × Dt)} {d x : Dt} {v : V} {k : L2.Key} (r : KReps K W us kvs) (hk : keyD d = some k) (rv : Rep K W v x) : KReps K W (putK us k v) (dputD kvs d x) := by
  unfold putK dputD
  rw [r.any hk]
  by_cases h : (kvs.any fun p => keyEq p.1 d) = true
  · rw [if_pos h, if_pos h]
    clear h
    induction r with
    | nil => exact .nil
    | @int i u y us kvs ru _ ih =>
      rw [List.map_cons, List.map_cons]
      have e := keyD_eq (d := .int i) rfl hk
      by_cases q : Sum.inl i = k
      · rw [if_pos q, if_pos (e.trans (decide_eq_true q))]; exact .int rv ih
      · rw [if_neg q, if_neg (by rw [show keyEq (Dt.int i, y).1 d = _ from e]; simpa using q)]; exact .int ru ih
    | @str i u y us kvs ru _ ih =>
      rw [List.map_cons, List.map_cons]
      have e := keyD_eq (d := .str i) rfl hk
      by_cases q : Sum.inr i = k
      · rw [if_pos q, if_pos (e.trans (decide_eq_true q))]; exact .str rv ih
      · rw [if_neg q, if_neg (by rw [show keyEq (Dt.str i, y).1 d = _ from e]; simpa using q)]; exact .str ru ih
  · rw [if_neg h, if_neg h]
    have one : KReps K W [(k, v)] [(d, x)] := by
      match d, hk with
      | .int _, rfl => exact .int rv .nil
      | .str _, rfl => exact .str rv .nil
    clear h
    induction r with
    | nil => exact one
    | int ru _ ih => exact .int ru ih
    | str ru _ ih => exact .str ru ih
theorem keyD_kV {d : Dt} {k : L2.Key} {v : V} (r : Rep K W v d) (hk : keyD d = some k) : v = kV k := by
  cases r <;> cases hk <;> rfl
theorem kvs_rel {kvs : List (Dt × Dt)} (g : Good K ca W st σ H) (r : RepH K W0 st0 H0 W st σ H v h) (e : kvsOf st h = some kvs) :
    ∃ a us, v = .ref a ∧ KReps K W us kvs ∧ H a = some (.dK us) := by
  unfold kvsOf at e
  split at e
  · cases e
    obtain ⟨p, us, rfl, h1, h2, _⟩ := r
    exact ⟨p, us, rfl, h2, h1⟩
  · split at e
    · cases e
      rename_i i ds' q
      obtain ⟨e1, us, h1, h2⟩ := g.slot i _ q
      have r' : σ[i]? = some (some v) := r
      rw [r'] at e1
      have e2 : v = .ref (W.m (.slot i)) := Option.some.inj e1
      exact ⟨_, us, e2, h2, h1⟩
    · cases e
  · rename_i n f
    split at e
    · rename_i c fs q
      split at e
      · cases e
        rename_i q2
        obtain ⟨us, h1, h2, h3, h4⟩ := g.obj n _ q
        obtain ⟨x, e1, r1, _⟩ := h3.look q2
        obtain ⟨e2, us', h5, h6⟩ := r1
        exact ⟨_, us', r.1, h6, h5⟩
      · cases e
    · cases e
  · cases e
theorem lst_seq (e : lstOf st h = some ds) : seqOf st h = some (true, ds) := by
  unfold lstOf at e
  split at e
  · cases e
  · split at e
    · cases e; assumption
    · cases e
theorem lst_rel (g : Good K ca W st σ H) (r : RepH K W0 st0 H0 W st σ H v h) (e : lstOf st h = some ds) : ∃ a vs, v = .ref a ∧ Reps K W vs ds ∧ H a = some (.lst vs) := by
  obtain ⟨a, vs, h1, h2, _, _, h3⟩ := seq_rel g r (lst_seq e)
  exact ⟨a, vs, h1, h2, h3 e⟩
mutual
theorem toPy_rel (gh : Same W.G H) : ∀ {d : Dt} {v : V} {p : PyData}, Rep K W v d → toPy d = some p → Dp K H v p
  | _, _, _, .non, e => by cases e; exact .non
  | _, _, _, .bl b, e => by cases e; exact .bl b
  | _, _, _, .int i, e => by cases e; exact .int i
  | _, _, _, .str x, e => by cases e; exact .str x
  | .tup ds, _, p, .tup s t, e => by
    have e' : (toPys ds).map PyData.tuple = some p := e
    cases q : toPys ds with
    | none => rw [q] at e'; cases e'
    | some ps => rw [q] at e'; cases e'; exact .tup (sameT gh s) (toPys_rel gh t q)
  | .lst ds, _, p, .lst s t, e => by
    have e' : (toPys ds).map PyData.list = some p := e
    cases q : toPys ds with
    | none => rw [q] at e'; cases e'
    | some ps => rw [q] at e'; cases e'; exact .lst (SqL.of (gh _ _ s)) (toPys_rel gh t q)
  | .slst ds, _, p, .slst s t, e => by
    have e' : (toPys ds).map PyData.list = some p := e
    cases q : toPys ds with
    | none => rw [q] at e'; cases e'
    | some ps => rw [q] at e'; cases e'; exact .lst (gh.seq s) (toPys_rel gh t q)
theorem toPys_rel (gh : Same W.G H) : ∀ {ds : List Dt} {vs : List V} {ps : List PyData}, Reps K W vs ds → toPys ds = some ps → DpAll K H vs ps
  | _, _, _, .nil, e => by cases e; exact .nil
  | d :: ds, _, ps, .cons a t, e => by
    have e' : (match toPy d, toPys ds with
      | some x, some xs => some (x :: xs)
      | _, _ => none) = some ps := e
    cases q1 : toPy d with
    | none => rw [q1] at e'; cases e'
    | some x =>
      cases q2 : toPys ds with
      | none => rw [q1, q2] at e'; cases e'
      | some xs => rw [q1, q2] at e'; cases e'; exact .cons (toPy_rel gh a q1) (toPys_rel gh t q2)
end
theorem pyOf_rel {p : PyData} (g : Good K ca W st σ H) (r : RepH K W0 st0 H0 W st σ H v h) (e : pyOf st h = some p) : Dp K H v p := by
  unfold pyOf at e
  split at e
  · rename_i ds q
    obtain ⟨a, vs, rfl, h1, h2, _, _⟩ := seq_rel g r q
    cases q2 : toPys ds with
    | none => rw [q2] at e; cases e
    | some ps => rw [q2] at e; cases e; exact .lst (h2 rfl) (toPys_rel g.gh h1 q2)
  · rename_i ds q
    obtain ⟨a, vs, rfl, h1, _, h2, _⟩ := seq_rel g r q
    cases q2 : toPys ds with
    | none => rw [q2] at e; cases e
    | some ps => rw [q2] at e; cases e; exact .tup (h2 rfl) (toPys_rel g.gh h1 q2)
  · split at e
    · exact toPy_rel g.gh r e
    · cases e
/-- a new list comes of an operation -/
theorem new_of {vs : List V} {Q : VK} (g : Good K ca W st σ H) (r : Reps K W vs ds) (q : ∀ W' H' v, Frm W st H W' st H' → Good K ca W' st σ H' → RepH K W st H W' st σ H' v (.new ds) → Q v H') : ∀ p, H p = none → Q (.ref p) (upd H p (.lst vs)) := fun p hp => by
  obtain ⟨f, g', r'⟩ := new_lst (Frm.refl W st H) g r hp
  exact q _ _ _ f g' r'
theorem newT_of {vs : List V} {Q : VK} (g : Good K ca W st σ H) (r : Reps K W vs ds) (q : ∀ W' H' v, Frm W st H W' st H' → Good K ca W' st σ H' → RepH K W st H W' st σ H' v (.val (.tup ds)) → Q v H') : ∀ p, H p = none → Q (.ref p) (upd H p (.tup vs)) := fun p hp => by
  obtain ⟨W', f, g', r', _⟩ := new_tup (Frm.refl W st H) g r hp
  exact q _ _ _ f g' r'
theorem reps_ints : ∀ {ds : List Dt} {vs : List V} {ns : List Int}, Reps K W vs ds → intsOf ds = some ns → vs = ns.map V.int
  | [], _, _, .nil, e => by cases e; rfl
  | d :: ds, _, _, .cons (v := v) a t, e => by
    cases d with
    | int i =>
      cases q : intsOf ds with
      | none =>
        have e' : (intsOf ds).map (i :: ·) = some _ := e
        rw [q] at e'; cases e'
      | some ms =>
        have e' : (intsOf ds).map (i :: ·) = some _ := e
        rw [q] at e'; cases e'
        cases a
        rw [reps_ints t q]; rfl
    | _ => cases e
theorem flat_rel : ∀ {d : Dt} {v w : V}, Rep K W v d → flatD d = some w → v = w ∧ flatV v = true
  | _, _, _, .non, e => by cases e; exact ⟨rfl, rfl⟩
  | _, _, _, .bl _, e => by cases e; exact ⟨rfl, rfl⟩
  | _, _, _, .int _, e => by cases e; exact ⟨rfl, rfl⟩
  | _, _, _, .str _, e => by cases e; exact ⟨rfl, rfl⟩
  | .tup _, _, _, _, e => by cases e
  | .lst _, _, _, _, e => by cases e
  | .slst _, _, _, _, e => by cases e
  | .box _, _, _, _, e => by cases e
theorem flats_rel : ∀ {ds : List Dt} {vs ws : List V}, Reps K W vs ds → flatsD ds = some ws → vs = ws ∧ vs.all flatV = true
  | [], _, _, .nil, e => by cases e; exact ⟨rfl, rfl⟩
  | d :: ds, _, ws, .cons a t, e => by
    have e' : (match flatD d, flatsD ds with
      | some v, some vs => some (v :: vs)
      | _, _ => none) = some ws := e
    cases q1 : flatD d with
    | none => rw [q1] at e'; cases e'
    | some x =>
      cases q2 : flatsD ds with
      | none => rw [q1, q2] at e'; cases e'
      | some xs =>
        rw [q1, q2] at e'; cases e'
        obtain ⟨rfl, h1⟩ := flat_rel a q1
        obtain ⟨rfl, h2⟩ := flats_rel t q2
        exact ⟨rfl, by rw [List.all_cons, h1, h2]; rfl⟩
theorem Reps.rep {vs : List V} {ds : List Dt} (r : Reps K W vs ds) : ∀ n, Reps K W (List.replicate n vs).flatten (List.replicate n ds).flatten
  | 0 => .nil
  | n + 1 => by
    rw [List.replicate_succ, List.replicate_succ, List.flatten_cons, List.flatten_cons]
    exact r.append (Reps.rep r n)
theorem Reps.cut {vs : List V} {ds : List Dt} (r : Reps K W vs ds) (lo hi : Option Int) : Reps K W (cutV vs lo hi) (cutD ds lo hi) := by
  unfold cutV cutD
  rw [r.length]
  exact (r.drop _).take _
theorem maxI_mem : ∀ (m : Int) (ns : List Int), maxI m ns ∈ m :: ns
  | m, [] => by simp [maxI]
  | m, n :: ns => by
    have h := maxI_mem (if m < n then n else m) ns
    show maxI (if m < n then n else m) ns ∈ _
    rcases List.mem_cons.1 h with h | h
    · rw [h]; split <;> simp
    · exact List.mem_cons_of_mem _ (List.mem_cons_of_mem _ h)
theorem maxI_ge : ∀ (m : Int) (ns : List Int) (y : Int), y ∈ m :: ns → y ≤ maxI m ns
  | m, [], y, h => by
    rcases List.mem_cons.1 h with rfl | h
    · exact Int.le_refl _
    · cases h
  | m, n :: ns, y, h => by
    have h1 := maxI_ge (if m < n then n else m) ns (if m < n then n else m) (by simp)
    have e : maxI m (n :: ns) = maxI (if m < n then n else m) ns := rfl
    rw [e]
    rcases List.mem_cons.1 h with rfl | h
    · generalize maxI _ ns = z at h1 ⊢
      split at h1 <;> omega
    · rcases List.mem_cons.1 h with rfl | h
      · generalize maxI _ ns = z at h1 ⊢
        split at h1 <;> omega
      · exact maxI_ge _ ns y (List.mem_cons_of_mem _ h)
theorem minI_mem : ∀ (m : Int) (ns : List Int), minI m ns ∈ m :: ns
  | m, [] => by simp [minI]
  | m, n :: ns => by
    have h := minI_mem (if n < m then n else m) ns
    show minI (if n < m then n else m) ns ∈ _
    rcases List.mem_cons.1 h with h | h
    · rw [h]; split <;> simp
    · exact List.mem_cons_of_mem _ (List.mem_cons_of_mem _ h)
theorem minI_le : ∀ (m : Int) (ns : List Int) (y : Int), y ∈ m :: ns → minI m ns ≤ y
  | m, [], y, h => by
    rcases List.mem_cons.1 h with rfl | h
    · exact Int.le_refl _
    · cases h
  | m, n :: ns, y, h => by
    have h1 := minI_le (if n < m then n else m) ns (if n < m then n else m) (by simp)
    have e : minI m (n :: ns) = minI (if n < m then n else m) ns := rfl
    rw [e]
    rcases List.mem_cons.1 h with rfl | h
    · generalize minI _ ns = z at h1 ⊢
      split at h1 <;> omega
    · rcases List.mem_cons.1 h with rfl | h
      · generalize minI _ ns = z at h1 ⊢
        split at h1 <;> omega
      · exact minI_le _ ns y (List.mem_cons_of_mem _ h)
theorem sort_eq {ns ms : List Int} (h : ms.Perm ns) (s : ms.Pairwise (· ≤ ·)) : ms = sortI ns := by
  refine List.Perm.eq_of_pairwise (le := (· ≤ ·)) (fun a b _ _ h1 h2 => Int.le_antisymm h1 h2) s ?_ (h.trans (List.mergeSort_perm _ _).symm)
  refine (List.pairwise_mergeSort (le := fun a b : Int => decide (a ≤ b)) ?_ ?_ ns).imp ?_
  · intro a b c h1 h2; simp only [decide_eq_true_eq] at *; omega
  · intro a b; simp only [Bool.or_eq_true, decide_eq_true_eq]; omega
  · intro a b h; simpa using h
theorem atI_rel {vs : List V} {d : Dt} {i : Int} (r : Reps K W vs ds) (e : atI ds i = some d) : ∃ v, atI vs i = some v ∧ Rep K W v d := by
  unfold atI at e ⊢
  rw [r.length]
  cases q : ixN ds.length i with
  | none => rw [q] at e; cases e
  | some j => rw [q] at e; exact r.get e
end

/-! ### operations -/
def opO : BOp → Operator
  | .add => .Add
  | .sub => .Sub
  | .mul => .Mult
  | .fdiv => .FloorDiv
  | .mod => .Mod
  | .pow => .Pow
  | .shl => .LShift
  | .shr => .RShift
  | .band => .BitAnd
  | .bor => .BitOr
  | .bxor => .BitXor
section
variable {X : Cx} {ca : Ci}
def CDivB (i j : Int) : Prop := j ≠ 0 ∧ j.natAbs < 115792089237316195423570985008687907853269984665640564039457584007913129639936
theorem op_fdivB : OpR X (binaryOp .FloorDiv) (rI CDivB fun i j => .int (i.fdiv j)) := opI fun _ j _ _ _ _ _ hc q => floordiv_int hc.1 q (.inl (PyProof.noPylong_of_log2 (by
  have h : j.natAbs.log2 < 256 := PySem.Flt.log2_lt_of (by decide) (by have := hc.2; have e : (2 : Nat) ^ 256 = 115792089237316195423570985008687907853269984665640564039457584007913129639936 := by decide +kernel
                                                                       omega)
  omega)))
theorem opR_bin (o : BOp) : OpR X (binaryOp (opO o)) (rD X.K ca (binD o)) := by
  intro pins s σ' H x y v u Q I rx ry ⟨W, st, σ, W1, st1, H1, W2, st2, H2, hx, hy, h, g, r1, r2, e, q⟩
  unfold binD at e
  split at e
  · cases e; cases r1; cases r2
    exact op_add pins s σ' H _ _ v u Q I rx ry ⟨_, _, rfl, rfl, q W H _ (.refl ..) g (.int _)⟩
  · cases e; cases r1; cases r2
    exact op_sub pins s σ' H _ _ v u Q I rx ry ⟨_, _, rfl, rfl, q W H _ (.refl ..) g (.int _)⟩
  · split at e
    · rename_i hm
      cases e; cases r1; cases r2
      unfold mulOk at hm
      simp only [Bool.or_eq_true, Bool.and_eq_true, decide_eq_true_eq] at hm
      exact op_mul pins s σ' H _ _ v u Q I rx ry ⟨_, _, rfl, rfl, hm, q W H _ (.refl ..) g (.int _)⟩
    · cases e
  · split at e
    · rename_i hm
      cases e; cases r1; cases r2
      exact op_fdivB pins s σ' H _ _ v u Q I rx ry ⟨_, _, rfl, rfl, hm, q W H _ (.refl ..) g (.int _)⟩
    · cases e
  · split at e
    · rename_i xs e1
      split at e
      · rename_i hm
        cases e; cases r2
        obtain ⟨a, vs, rfl, t1, h1⟩ := lst_rel g r1 e1
        exact op_rep pins s σ' H _ _ v u Q I rx ry ⟨a, _, vs, rfl, rfl, h1, hm.1, hm.2.1, by rw [t1.length]; exact hm.2.2, new_of g (t1.rep _) q⟩
      · cases e
    · cases e
  · split at e
    · rename_i hm
      cases e; cases r1; cases r2
      exact op_pow pins s σ' H _ _ v u Q I rx ry ⟨_, _, rfl, rfl, hm, q W H _ (.refl ..) g (.int _)⟩
    · cases e
  · split at e
    · rename_i xs ys hm
      cases e
      obtain ⟨a, vs, rfl, t1, _, h1, _⟩ := seq_rel g r1 (show seqOf st (.val (.tup xs)) = some (false, xs) from rfl)
      obtain ⟨b, us, rfl, t2, _, h2, _⟩ := seq_rel g r2 (show seqOf st (.val (.tup ys)) = some (false, ys) from rfl)
      refine op_catA pins s σ' H _ _ v u Q I rx ry ⟨a, b, vs, us, rfl, rfl, h1 rfl, h2 rfl, by rw [t1.length, t2.length]; exact hm, fun hn => ?_, fun _ hn => ?_, fun _ _ => newT_of g (t1.append t2) q⟩
      · subst hn
        cases t1
        exact q W H _ (.refl ..) g r2
      · subst hn
        cases t2
        refine q W H _ (.refl ..) g ?_
        rw [List.append_nil]
        exact r1
    · cases e
  · split at e
    · rename_i hm
      cases e; cases r1; cases r2
      exact op_modN pins s σ' H _ _ v u Q I rx ry ⟨_, _, rfl, rfl, hm, q W H _ (.refl ..) g (.int _)⟩
    · cases e
  · cases e; cases r1; cases r2
    exact op_and pins s σ' H _ _ v u Q I rx ry ⟨_, _, rfl, rfl, q W H _ (.refl ..) g (.int _)⟩
  · cases e; cases r1; cases r2
    exact op_or pins s σ' H _ _ v u Q I rx ry ⟨_, _, rfl, rfl, q W H _ (.refl ..) g (.int _)⟩
  · cases e; cases r1; cases r2
    exact op_xor pins s σ' H _ _ v u Q I rx ry ⟨_, _, rfl, rfl, q W H _ (.refl ..) g (.int _)⟩
  · split at e
    · rename_i hm
      cases e; cases r1; cases r2
      exact op_shl pins s σ' H _ _ v u Q I rx ry ⟨_, _, rfl, rfl, hm, q W H _ (.refl ..) g (.int _)⟩
    · cases e
  · split at e
    · rename_i hm
      cases e; cases r1; cases r2
      exact op_shr pins s σ' H _ _ v u Q I rx ry ⟨_, _, rfl, rfl, hm, q W H _ (.refl ..) g (.int _)⟩
    · cases e
  · split at e
    · rename_i hm
      cases e; cases r1; cases r2
      exact op_add_str pins s σ' H _ _ v u Q I rx ry ⟨_, _, rfl, rfl, hm, q W H _ (.refl ..) g (.str _)⟩
    · cases e
  · split at e
    · rename_i xs ys e1 e2
      split at e
      · rename_i hm
        cases e
        obtain ⟨a, vs, rfl, t1, h1⟩ := lst_rel g r1 e1
        obtain ⟨b, us, rfl, t2, h2⟩ := lst_rel g r2 e2
        exact op_cat pins s σ' H _ _ v u Q I rx ry ⟨a, b, vs, us, rfl, rfl, h1, h2, by rw [t1.length, t2.length]; exact hm, new_of g (t1.append t2) q⟩
      · cases e
    · cases e
  · cases e
def cmpO : COp → CmpOp
  | .lt => .Lt
  | .le => .LtE
  | .gt => .Gt
  | .ge => .GtE
  | .eq => .Eq
  | .ne => .NotEq
  | .is => .Is
  | .isnot => .IsNot
  | .inn => .In
  | .notin => .NotIn
theorem eqD_rel {W W1 W2 : Wd} {st st1 st2 : Sta} {σ : L2.St} {H H1 H2 : Hp} {hx hy : Hd} {x y : V} {b : Bool} (g : Good X.K ca W st σ H) (r1 : RepH X.K W1 st1 H1 W st σ H x hx) (r2 : RepH X.K W2 st2 H2 W st σ H y hy) (e : eqD st hx hy = some b) :
    (scal x y = true ∧ b = decide (x = y)) ∨ ∃ d e, Dp X.K H x d ∧ Dp X.K H y e ∧ SeqAt.shaped d = true ∧ SeqAt.shaped e = true ∧ b = PyData.eqv d e := by
  unfold eqD at e
  split at e
  · cases e; cases r1; cases r2; exact .inl ⟨rfl, by simp⟩
  · cases e; cases r1; cases r2; exact .inl ⟨rfl, by simp⟩
  · cases e; cases r1; cases r2; exact .inl ⟨rfl, by simp⟩
  · unfold eqGen at e
    split at e
    · rename_i d e' q1 q2
      split at e
      · rename_i hs
        cases e
        rw [Bool.and_eq_true] at hs
        exact .inr ⟨d, e', pyOf_rel g r1 q1, pyOf_rel g r2 q2, hs.1, hs.2, rfl⟩
      · cases e
    · cases e
theorem inD_rel {W W1 W2 : Wd} {st st1 st2 : Sta} {σ : L2.St} {H H1 H2 : Hp} {hx hy : Hd} {x y : V} {b : Bool} (g : Good X.K ca W st σ H) (r1 : RepH X.K W1 st1 H1 W st σ H x hx) (r2 : RepH X.K W2 st2 H2 W st σ H y hy) (e : inD st hx hy = some b) :
    (∃ c z, x = .str ⟨#[c]⟩ ∧ y = .str z ∧ b = decide (c ∈ z.cps.toList)) ∨ (∃ p xs, y = .ref p ∧ (SqL X.K H p xs ∨ SqT X.K H p xs) ∧ flatV x = true ∧ xs.all flatV = true ∧ b = inV x xs) ∨
      ∃ d ds, Dp X.K H x d ∧ Dp X.K H y (.list ds) ∧ SeqAt.shaped d = true ∧ SeqAt.shaped (.list ds) = true ∧ b = ds.any fun z => PyData.eqv z d := by
  unfold inD at e
  split at e
  · split at e
    · cases r1; cases r2
      unfold inSign at e
      split at e
      · rename_i a _ c q
        cases e
        refine .inl ⟨c, _, ?_, rfl, rfl⟩
        congr 1
        cases a with
        | mk cps =>
          congr 1
          exact Array.toList_inj.1 q
      · cases e
    · cases e
  · split at e
    · rename_i b' q
      cases e
      unfold inFlat at q
      split at q
      · rename_i d b2 ds q2
        split at q
        · rename_i v vs q3 q4
          cases q
          obtain ⟨a, ws, rfl, t, h1, h2, _⟩ := seq_rel g r2 q2
          obtain ⟨rfl, f1⟩ := flat_rel r1 q3
          obtain ⟨rfl, f2⟩ := flats_rel t q4
          refine .inr (.inl ⟨a, _, rfl, ?_, f1, f2, rfl⟩)
          cases b2 with
          | true => exact .inl (h1 rfl)
          | false => exact .inr (h2 rfl)
        · cases q
      · cases q
    · unfold inData at e
      split at e
      · rename_i d ds q1 q2
        split at e
        · rename_i hs
          cases e
          rw [Bool.and_eq_true] at hs
          exact .inr (.inr ⟨d, ds, pyOf_rel g r1 q1, pyOf_rel g r2 q2, hs.1, hs.2, rfl⟩)
        · cases e
      · cases e
theorem isNone_rel {W W1 : Wd} {st st1 : Sta} {σ : L2.St} {H H1 : Hp} {hx : Hd} {x : V} {b : Bool} (r1 : RepH X.K W1 st1 H1 W st σ H x hx) (e : isNone hx = some b) : b = decide (x = .non) := by
  unfold isNone at e
  split at e
  · cases e; cases r1; rfl
  · cases e
    rename_i d hn
    cases r1 with
    | non => exact absurd rfl hn
    | _ => rfl
  · cases e; obtain ⟨p, vs, rfl, _⟩ := r1; rfl
  · cases e; obtain ⟨p, vs, rfl, _⟩ := r1; rfl
  · cases e
theorem opR_cmp (hu : X.A.units + 66 < cLine) (o : COp) : OpR X (compareOp (cmpO o)) (rD X.K ca (cmpD o)) := by
  intro pins s σ' H x y v u Q I rx ry ⟨W, st, σ, W1, st1, H1, W2, st2, H2, hx, hy, h, g, r1, r2, e, q⟩
  unfold cmpD at e
  split at e
  · split at e
    · cases e; cases r1; cases r2
      exact op_lt pins s σ' H _ _ v u Q I rx ry ⟨_, _, rfl, rfl, q W H _ (.refl ..) g (.bl _)⟩
    · cases e
  · split at e
    · cases e; cases r1; cases r2
      exact op_le pins s σ' H _ _ v u Q I rx ry ⟨_, _, rfl, rfl, q W H _ (.refl ..) g (.bl _)⟩
    · cases e
  · split at e
    · cases e; cases r1; cases r2
      exact op_gt pins s σ' H _ _ v u Q I rx ry ⟨_, _, rfl, rfl, q W H _ (.refl ..) g (.bl _)⟩
    · cases e
  · split at e
    · cases e; cases r1; cases r2
      exact op_ge pins s σ' H _ _ v u Q I rx ry ⟨_, _, rfl, rfl, q W H _ (.refl ..) g (.bl _)⟩
    · cases e
  · cases q1 : eqD st hx hy with
    | none => rw [q1] at e; cases e
    | some b =>
      rw [q1] at e; cases e
      rcases eqD_rel g r1 r2 q1 with ⟨hs, rfl⟩ | ⟨d, e, d1, d2, s1, s2, rfl⟩
      · exact op_eq pins s σ' H _ _ v u Q I rx ry ⟨hs, q W H _ (.refl ..) g (.bl _)⟩
      · exact op_eqD (by omega) pins s σ' H _ _ v u Q I rx ry ⟨d, e, d1, d2, s1, s2, q W H _ (.refl ..) g (.bl _)⟩
  · cases q1 : eqD st hx hy with
    | none => rw [q1] at e; cases e
    | some b =>
      rw [q1] at e; cases e
      rcases eqD_rel g r1 r2 q1 with ⟨hs, rfl⟩ | ⟨d, e, d1, d2, s1, s2, rfl⟩
      · exact op_ne pins s σ' H _ _ v u Q I rx ry ⟨hs, q W H _ (.refl ..) g (.bl _)⟩
      · exact op_neD (by omega) pins s σ' H _ _ v u Q I rx ry ⟨d, e, d1, d2, s1, s2, q W H _ (.refl ..) g (.bl _)⟩
  · split at e
    · cases q1 : isNone hx with
      | none => rw [q1] at e; cases e
      | some b =>
        rw [q1] at e; cases e
        cases r2
        obtain rfl := isNone_rel (X := X) r1 q1
        exact op_isN pins s σ' H _ _ v u Q I rx ry ⟨rfl, q W H _ (.refl ..) g (.bl _)⟩
    · cases e
  · split at e
    · cases q1 : isNone hx with
      | none => rw [q1] at e; cases e
      | some b =>
        rw [q1] at e; cases e
        cases r2
        obtain rfl := isNone_rel (X := X) r1 q1
        exact op_notN pins s σ' H _ _ v u Q I rx ry ⟨rfl, q W H _ (.refl ..) g (.bl _)⟩
    · cases e
  · cases q1 : inD st hx hy with
    | none => rw [q1] at e; cases e
    | some b =>
      rw [q1] at e; cases e
      rcases inD_rel g r1 r2 q1 with ⟨c, z, rfl, rfl, rfl⟩ | ⟨p, xs, rfl, h1, h2, h3, rfl⟩ | ⟨d, ds, d1, d2, s1, s2, rfl⟩
      · exact op_in_sign pins s σ' H _ _ v u Q I rx ry ⟨c, z, rfl, rfl, q W H _ (.refl ..) g (.bl _)⟩
      · exact op_in_seq pins s σ' H _ _ v u Q I rx ry ⟨p, xs, rfl, h1, h2, h3, q W H _ (.refl ..) g (.bl _)⟩
      · exact op_inD (by omega) pins s σ' H _ _ v u Q I rx ry ⟨d, ds, d1, d2, s1, s2, q W H _ (.refl ..) g (.bl _)⟩
  · cases q1 : inD st hx hy with
    | none => rw [q1] at e; cases e
    | some b =>
      rw [q1] at e; cases e
      rcases inD_rel g r1 r2 q1 with ⟨c, z, rfl, rfl, rfl⟩ | ⟨p, xs, rfl, h1, h2, h3, rfl⟩ | ⟨d, ds, d1, d2, s1, s2, rfl⟩
      · exact op_notIn_sign pins s σ' H _ _ v u Q I rx ry ⟨c, z, rfl, rfl, q W H _ (.refl ..) g (.bl _)⟩
      · exact op_notIn_seq pins s σ' H _ _ v u Q I rx ry ⟨p, xs, rfl, h1, h2, h3, q W H _ (.refl ..) g (.bl _)⟩
      · exact op_notInD (by omega) pins s σ' H _ _ v u Q I rx ry ⟨d, ds, d1, d2, s1, s2, q W H _ (.refl ..) g (.bl _)⟩
theorem ixR_imp {r r' : R2} (h : IxR X r) (i : ∀ x y H Q, r' x y H Q → r x y H Q) : IxR X r' := fun value slice pins s σ H x y v u Q I rx ry q => h value slice pins s σ H x y v u Q I rx ry (i _ _ _ _ q)
theorem ixR_ix : IxR X (rD X.K ca ixD) := by
  have base := @ix_seq X
  refine ixR_imp base fun x y H Q ⟨W, st, σ, W1, st1, H1, W2, st2, H2, hx, hy, h, g, r1, r2, e, q⟩ => ?_
  unfold ixD at e
  split at e
  · cases r2
    split at e
    · rename_i b ds q1
      cases q2 : atI ds _ with
      | none => rw [q2] at e; cases e
      | some d =>
        rw [q2] at e; cases e
        obtain ⟨a, vs, rfl, t, h1, h2, _⟩ := seq_rel g r1 q1
        obtain ⟨w, e1, r3⟩ := atI_rel t q2
        cases b with
        | true => exact .inl ⟨a, vs, _, w, rfl, rfl, h1 rfl, e1, q W H _ (.refl ..) g r3⟩
        | false => exact .inr (.inl ⟨a, vs, _, w, rfl, rfl, h2 rfl, e1, q W H _ (.refl ..) g r3⟩)
    · split at e
      · split at e
        · rename_i z _ hl
          cases q2 : atI z.cps.toList _ with
          | none => rw [q2] at e; cases e
          | some c =>
            rw [q2] at e; cases e
            cases r1
            exact .inr (.inr ⟨z, _, c, rfl, rfl, hl, q2, q W H _ (.refl ..) g (.str _)⟩)
        · cases e
      · cases e
  · cases e
def unO : UOp → UnaryOp
  | .neg => .USub
  | .inv => .Invert
theorem unR_un (o : UOp) : UnR X (unaryOp (unO o)) (rD1 X.K ca fun _ => unD o) := by
  intro pins s σ' H x v Q I rx ⟨W, st, σ, W1, st1, H1, hx, h, g, r1, e, q⟩
  have e : unD o hx = some h := e
  unfold unD at e
  split at e
  · cases e; cases r1
    exact un_neg pins s σ' H _ v Q I rx ⟨_, rfl, q W H _ (.refl ..) g (.int _)⟩
  · cases e; cases r1
    exact un_inv pins s σ' H _ v Q I rx ⟨_, rfl, q W H _ (.refl ..) g (.int _)⟩
  · cases e
end
theorem vals_one {x : V} {v : Value} {xs : List V} : True := trivial
/-! ### max, min, sum of a tuple of ints -/
section
variable {P : Program} {w : World} {A : Around} {E : Value → Shared → Prop} {s : Shared}
/-- the walk along a tuple, just begun -/
theorem tup_walk {l : Addr} {vs : Array Value} (hh : A.handled = none) (hl : s.heap.IsTuple l vs) {R : Value → Shared → Prop}
    (hR : ∀ (H : Heap) (I : Addr), (∀ b o, s.heap.get? b = some o → b ≠ I ∧ H.get? b = some o) → (H.IsTupleIter I l 0 ∧ H.IsTuple l vs) → (∀ b ∈ [I, l], b < H.objs.size) → l ≠ I → R (.ref I) { s with heap := H }) :
    wpAny (model P w) A (pyIter (.ref l)) R E s := by
  have hll : l < s.heap.objs.size := by
    obtain ⟨o, ho, _⟩ := hl
    exact Heap.lt_size ho
  refine wpAny_pyIter_tuple hl (hR _ _ (fun b o e => ⟨Nat.ne_of_lt (Heap.lt_size e), Heap.get?_push_of_some _ e⟩) ⟨⟨_, Heap.get?_push_size _ rfl, rfl, rfl⟩, hl.push _⟩ (fun b hb => ?_) (Nat.ne_of_lt hll))
  rw [Heap.size_push]
  simp only [List.mem_cons, List.not_mem_nil, or_false] at hb
  rcases hb with rfl | rfl
  · exact Nat.lt_succ_self _
  · exact Nat.lt_succ_of_lt hll
theorem max_tupI {l : Addr} {its : List Value} {ns : List Int} {Q : Value → Shared → Prop} (hh : A.handled = none) (hl : s.heap.IsTuple l its.toArray) (hi : IntsAre its ns) (hne : 0 < ns.length)
    (hQ : ∀ h' tk M t, (∀ b o, s.heap.get? b = some o → h'.get? b = some o) → M ∈ ns → (∀ a, a ∈ ns → a ≤ M) → Q (.int M t) { s with heap := h', toks := tk }) :
    wpAny (model P w) A (call (.builtin "max") [.ref l]) Q E s := by
  obtain ⟨xs, e⟩ := hi.allInts.items
  have hn : numsOf (intItems xs).toList = ns := by rw [← e]; exact hi.numsOf
  rw [nums_intItems] at hn
  subst hn
  rw [e] at hl
  have hsz : 0 < (intItems xs).size := by simpa [intItems] using hne
  have hs2 : (intItems xs).size = xs.size := by simp [intItems]
  refine call_max_walk (tup_walk (A := A.in1) hh hl fun H I old st fpb hlI => ⟨I, _, _, _, _, _, _, rfl, Walks.tuple (A := A.in1) hh I l hlI (intItems xs), st, fpb, hsz, CmpOf.ints_gt (numAt xs) (fun _ _ => intItems_at), fun v h' tk hP hk => ?_⟩)
  rw [hs2] at hP
  obtain ⟨t, rfl⟩ := intItems_at hP
  have best := argBest_gt (numAt xs) (xs.size - 1)
  refine hQ h' tk _ t (fun b o hbo => hk b o ?_ (old b o hbo).2) ?_ fun a ha => ?_
  · simpa using (old b o hbo).1
  · rw [numAt_eq]
    exact PySem.getD_mem (by rw [List.length_map, Array.length_toList]; omega)
  · obtain ⟨j, hj, rfl⟩ := mem_getD ha
    rw [List.length_map, Array.length_toList] at hj
    rw [← numAt_eq]
    exact best.2 j (by omega)
theorem min_tupI {l : Addr} {its : List Value} {ns : List Int} {Q : Value → Shared → Prop} (hh : A.handled = none) (hl : s.heap.IsTuple l its.toArray) (hi : IntsAre its ns) (hne : 0 < ns.length)
    (hQ : ∀ h' tk M t, (∀ b o, s.heap.get? b = some o → h'.get? b = some o) → M ∈ ns → (∀ a, a ∈ ns → M ≤ a) → Q (.int M t) { s with heap := h', toks := tk }) :
    wpAny (model P w) A (call (.builtin "min") [.ref l]) Q E s := by
  obtain ⟨xs, e⟩ := hi.allInts.items
  have hn : numsOf (intItems xs).toList = ns := by rw [← e]; exact hi.numsOf
  rw [nums_intItems] at hn
  subst hn
  rw [e] at hl
  have hsz : 0 < (intItems xs).size := by simpa [intItems] using hne
  have hs2 : (intItems xs).size = xs.size := by simp [intItems]
  refine call_min_walk (tup_walk (A := A.in1) hh hl fun H I old st fpb hlI => ⟨I, _, _, _, _, _, _, rfl, Walks.tuple (A := A.in1) hh I l hlI (intItems xs), st, fpb, hsz, CmpOf.ints_lt (numAt xs) (fun _ _ => intItems_at), fun v h' tk hP hk => ?_⟩)
  rw [hs2] at hP
  obtain ⟨t, rfl⟩ := intItems_at hP
  have best := argBest_lt (numAt xs) (xs.size - 1)
  refine hQ h' tk _ t (fun b o hbo => hk b o ?_ (old b o hbo).2) ?_ fun a ha => ?_
  · simpa using (old b o hbo).1
  · rw [numAt_eq]
    exact PySem.getD_mem (by rw [List.length_map, Array.length_toList]; omega)
  · obtain ⟨j, hj, rfl⟩ := mem_getD ha
    rw [List.length_map, Array.length_toList] at hj
    rw [← numAt_eq]
    exact best.2 j (by omega)
theorem sum_tupI {l : Addr} {its : List Value} {ns : List Int} {Q : Value → Shared → Prop} (hh : A.handled = none) (hl : s.heap.IsTuple l its.toArray) (hi : IntsAre its ns)
    (hQ : ∀ h' tk t, (∀ b o, s.heap.get? b = some o → h'.get? b = some o) → Q (.int ns.sum t) { s with heap := h', toks := tk }) :
    wpAny (model P w) A (call (.builtin "sum") [.ref l]) Q E s := by
  obtain ⟨xs, e⟩ := hi.allInts.items
  have hn : numsOf (intItems xs).toList = ns := by rw [← e]; exact hi.numsOf
  rw [nums_intItems] at hn
  subst hn
  rw [e] at hl
  have hs2 : (intItems xs).size = xs.size := by simp [intItems]
  refine call_sum_walkG (tup_walk (A := A.in1) hh hl fun H I old st fpb hlI => ⟨I, _, _, _, _, _, numAt xs, rfl, Walks.tuple (A := A.in1) hh I l hlI (intItems xs), st, fpb, (fun _ _ => intItems_at), fun h' tk t hk => ?_⟩)
  rw [hs2, preSum_eq, List.take_of_length_le (by simp)]
  exact hQ h' tk t (fun b o hbo => hk b o (by simpa using (old b o hbo).1) (old b o hbo).2)
end
section
variable {X : Cx}
theorem callR_or {f : Value} {r1 r2 : List V → Hp → VK → Prop} (h1 : CallR X f r1) (h2 : CallR X f r2) : CallR X f (fun vs H Q => r1 vs H Q ∨ r2 vs H Q) := fun pins s σ H vs us Q I r q => q.elim (h1 pins s σ H vs us Q I r) (h2 pins s σ H vs us Q I r)
def rTupB (K : PySem.W.Frag) (ok : List Int → Int → Prop) (ne : Bool) : List V → Hp → VK → Prop := fun vs H Q => ∃ (a : Addr) (ns : List Int), vs = [V.ref a] ∧ SqT K H a (ns.map V.int) ∧ (ne = true → 0 < ns.length) ∧ ∀ m, ok ns m → Q (.int m) H
theorem cr_maxT (hc : X.calm = true) : CallR X (.builtin "max") (rTupB X.K (fun ns m => m ∈ ns ∧ ∀ y, y ∈ ns → y ≤ m) true) := by
  intro pins s σ H vs us Q I r h
  obtain ⟨a, ns, rfl, hs, hne, q⟩ := h
  obtain ⟨its, rv, hl, _⟩ := I.tuple hs
  rw [Vals.ref1 r]
  exact max_tupI (I.ok.hd hc) hl rv.ints (hne rfl) fun h' tk m t hk h1 h2 => ⟨.int _, H, I.kept hk, ⟨_, rfl⟩, q m ⟨h1, h2⟩⟩
theorem cr_minT (hc : X.calm = true) : CallR X (.builtin "min") (rTupB X.K (fun ns m => m ∈ ns ∧ ∀ y, y ∈ ns → m ≤ y) true) := by
  intro pins s σ H vs us Q I r h
  obtain ⟨a, ns, rfl, hs, hne, q⟩ := h
  obtain ⟨its, rv, hl, _⟩ := I.tuple hs
  rw [Vals.ref1 r]
  exact min_tupI (I.ok.hd hc) hl rv.ints (hne rfl) fun h' tk m t hk h1 h2 => ⟨.int _, H, I.kept hk, ⟨_, rfl⟩, q m ⟨h1, h2⟩⟩
theorem cr_sumT (hc : X.calm = true) : CallR X (.builtin "sum") (rTupB X.K (fun ns m => m = ns.sum) false) := by
  intro pins s σ H vs us Q I r h
  obtain ⟨a, ns, rfl, hs, _, q⟩ := h
  obtain ⟨its, rv, hl, _⟩ := I.tuple hs
  rw [Vals.ref1 r]
  exact sum_tupI (I.ok.hd hc) hl rv.ints fun h' tk t hk => ⟨.int _, H, I.kept hk, ⟨_, rfl⟩, q _ rfl⟩
end
section
variable {X : Cx} {ca : Ci}
/-- built-ins of one argument -/
def rB1 (K : PySem.W.Frag) (ca : Ci) (op : Sta → Hd → Option Hd) : List V → Hp → VK → Prop := fun xs H Q => ∃ x, xs = [x] ∧ rD1 K ca op x H Q
def rB2 (K : PySem.W.Frag) (ca : Ci) (op : Sta → Hd → Hd → Option Hd) : List V → Hp → VK → Prop := fun xs H Q => ∃ x y, xs = [x, y] ∧ rD K ca op x y H Q
theorem callR_imp {f : Value} {r r' : List V → Hp → VK → Prop} (h : CallR X f r) (i : ∀ xs H Q, r' xs H Q → r xs H Q) : CallR X f r' := fun pins s σ H xs us Q I r q => h pins s σ H xs us Q I r (i _ _ _ q)
theorem call_abs_ : CallR X (.builtin "abs") (rB1 X.K ca (bltD .abs)) := callR_imp call_abs fun xs H Q ⟨x, e0, W, st, σ, W1, st1, H1, hx, h, g, r1, e, q⟩ => by
  subst e0
  have e : absD hx = some h := e
  unfold absD at e
  split at e
  · cases e; cases r1
    exact ⟨_, rfl, q W H _ (.refl ..) g (.int _)⟩
  · cases e
theorem call_int_ : CallR X (.type "int") (rB1 X.K ca (bltD .int)) := callR_imp call_int1 fun xs H Q ⟨x, e0, W, st, σ, W1, st1, H1, hx, h, g, r1, e, q⟩ => by
  subst e0
  have e : intD hx = some h := e
  unfold intD at e
  split at e
  · cases e; cases r1
    exact .inl ⟨_, rfl, q W H _ (.refl ..) g (.int _)⟩
  · cases e; cases r1
    exact .inr ⟨_, rfl, q W H _ (.refl ..) g (.int _)⟩
  · cases e
theorem call_len0 : CallR X (.builtin "len") (fun xs H Q => ∃ x, xs = [x] ∧ ∃ W st σ W1 st1 H1 hx h, Good X.K ca W st σ H ∧ RepH X.K W1 st1 H1 W st σ H x hx ∧ kvsOf st hx = none ∧ lenD st hx = some h ∧
    ∀ W' H' v, Frm W st H W' st H' → Good X.K ca W' st σ H' → RepH X.K W st H W' st σ H' v h → Q v H') := callR_imp call_len fun xs H Q ⟨x, e0, W, st, σ, W1, st1, H1, hx, h, g, r1, e3, e, q⟩ => by
  subst e0
  unfold lenD at e
  split at e
  · rename_i b ds q1
    cases e
    obtain ⟨a, vs, rfl, t, h1, h2, _⟩ := seq_rel g r1 q1
    refine ⟨_, ds.length, rfl, ?_, q W H _ (.refl ..) g (.int _)⟩
    cases b with
    | true => exact .inl ⟨vs, h1 rfl, t.length.symm⟩
    | false => exact .inr ⟨vs, h2 rfl, t.length.symm⟩
  · split at e
    · split at e
      · rename_i hl
        cases e; cases r1
        exact ⟨_, _, rfl, ⟨hl, rfl⟩, q W H _ (.refl ..) g (.int _)⟩
      · cases e
    · rw [e3] at e; cases e
theorem kvs_len {st : Sta} {x : Hd} {kvs : List (Dt × Dt)} (e : kvsOf st x = some kvs) : lenD st x = some (.val (.int kvs.length)) := by
  unfold lenD
  cases x with
  | newd k => cases e; rfl
  | own i =>
    have e : (match st.env[i]? with
      | some (.ownd kvs) => some kvs
      | _ => none) = some kvs := e
    show (match (match st.env[i]? with
      | some (.own ds) => some (true, ds)
      | _ => none) with
      | some (_, ds) => some (Hd.val (.int (ds : List Dt).length))
      | none => Option.map (fun kvs => Hd.val (.int (kvs : List (Dt × Dt)).length)) (match st.env[i]? with
        | some (.ownd kvs) => some kvs
        | _ => none)) = _
    revert e
    generalize st.env[i]? = o
    intro e
    match o, e with
    | some (.ownd k), e => cases e; rfl
  | fld n f =>
    have e : (match st.S[n]? with
      | some (.ins _ fs) => (match fs.lookup f with
        | some (.ownd kvs) => some kvs
        | _ => none)
      | _ => none) = some kvs := e
    show (match (match st.S[n]? with
      | some (.ins _ fs) => (match fs.lookup f with
        | some (.own ds) => some (true, ds)
        | _ => none)
      | _ => none) with
      | some (_, ds) => some (Hd.val (.int (ds : List Dt).length))
      | none => Option.map (fun kvs => Hd.val (.int (kvs : List (Dt × Dt)).length)) (match st.S[n]? with
        | some (.ins _ fs) => (match fs.lookup f with
          | some (.ownd kvs) => some kvs
          | _ => none)
        | _ => none)) = _
    revert e
    generalize st.S[n]? = o
    intro e
    match o, e with
    | some (.ins c fs), e =>
      have e : (match fs.lookup f with
        | some (.ownd kvs) => some kvs
        | _ => none) = some kvs := e
      show (match (match fs.lookup f with
        | some (.own ds) => some (true, ds)
        | _ => none) with
        | some (_, ds) => some (Hd.val (.int (ds : List Dt).length))
        | none => Option.map (fun kvs => Hd.val (.int (kvs : List (Dt × Dt)).length)) (match fs.lookup f with
          | some (.ownd kvs) => some kvs
          | _ => none)) = _
      revert e
      generalize fs.lookup f = o2
      intro e
      match o2, e with
      | some (.ownd k), e => cases e; rfl
  | _ => cases e
theorem call_len_ : CallR X (.builtin "len") (rB1 X.K ca (bltD .len)) := fun pins s σ' H xs us Q I r q => by
  obtain ⟨x, e0, W, st, σ, W1, st1, H1, hx, h, g, r1, e, q⟩ := q
  cases e3 : kvsOf st hx with
  | none => exact call_len0 (ca := ca) pins s σ' H xs us Q I r ⟨x, e0, W, st, σ, W1, st1, H1, hx, h, g, r1, e3, e, q⟩
  | some kvs =>
    have e : lenD st hx = some h := e
    rw [kvs_len e3] at e
    cases e
    obtain ⟨a, us', rfl, t, h1⟩ := kvs_rel g r1 e3
    subst e0
    exact call_lenD pins s σ' H _ us Q I r ⟨a, us', rfl, h1, by rw [t.length]; exact q W H _ (.refl ..) g (.int _)⟩
theorem call_list_ : CallR X (.type "list") (rB1 X.K ca (bltD .list)) := callR_imp call_list_of fun xs H Q ⟨x, e0, W, st, σ, W1, st1, H1, hx, h, g, r1, e, q⟩ => by
  subst e0
  have e : listD st hx = some h := e
  unfold listD at e
  split at e
  · rename_i b ds q1
    cases e
    obtain ⟨a, vs, rfl, t, h1, h2, _⟩ := seq_rel g r1 q1
    refine ⟨a, vs, rfl, ?_, new_of g t q⟩
    cases b with
    | true => exact .inl (h1 rfl)
    | false => exact .inr (h2 rfl)
  · cases e
theorem call_tuple_ : CallR X (.type "tuple") (rB1 X.K ca (bltD .tuple)) := callR_imp call_tuple_of fun xs H Q ⟨x, e0, W, st, σ, W1, st1, H1, hx, h, g, r1, e, q⟩ => by
  subst e0
  have e : tupleD st hx = some h := e
  unfold tupleD at e
  split at e
  · rename_i b ds q1
    cases e
    cases b with
    | true =>
      obtain ⟨a, vs, rfl, t, h1, h2, _⟩ := seq_rel g r1 q1
      exact ⟨a, vs, rfl, .inl ⟨h1 rfl, newT_of g t q⟩⟩
    | false =>
      have hd : hx = .val (.tup ds) := by
        unfold seqOf at q1
        split at q1 <;> first | (cases q1; rfl) | cases q1 | (split at q1 <;> first | cases q1 | (split at q1 <;> cases q1))
      subst hd
      obtain ⟨a, vs, rfl, t, h1, h2, _⟩ := seq_rel g r1 q1
      exact ⟨a, vs, rfl, .inr ⟨h2 rfl, q W H _ (.refl ..) g r1⟩⟩
  · cases e
theorem intsH_rel {W W1 : Wd} {st st1 : Sta} {σ : L2.St} {H H1 : Hp} {hx : Hd} {x : V} {ns : List Int} (g : Good X.K ca W st σ H) (r1 : RepH X.K W1 st1 H1 W st σ H x hx) (e : intsH st hx = some ns) : ∃ a, x = .ref a ∧ SqL X.K H a (ns.map V.int) := by
  unfold intsH at e
  split at e
  · rename_i ds q1
    obtain ⟨a, vs, rfl, t, h1, _⟩ := seq_rel g r1 q1
    rw [← reps_ints t e]
    exact ⟨a, rfl, h1 rfl⟩
  · cases e
theorem intsA_rel {W W1 : Wd} {st st1 : Sta} {σ : L2.St} {H H1 : Hp} {hx : Hd} {x : V} {ns : List Int} (g : Good X.K ca W st σ H) (r1 : RepH X.K W1 st1 H1 W st σ H x hx) (e : intsA st hx = some ns) : ∃ a, x = .ref a ∧ (SqL X.K H a (ns.map V.int) ∨ SqT X.K H a (ns.map V.int)) := by
  unfold intsA at e
  split at e
  · rename_i p q1
    obtain ⟨b, ds⟩ := p
    obtain ⟨a, vs, rfl, t, h1, h2, _⟩ := seq_rel g r1 q1
    have e' : intsOf ds = some ns := e
    rw [← reps_ints t e']
    cases b with
    | true => exact ⟨a, rfl, .inl (h1 rfl)⟩
    | false => exact ⟨a, rfl, .inr (h2 rfl)⟩
  · cases e
theorem call_sum_ (hc : X.calm = true) : CallR X (.builtin "sum") (rB1 X.K ca (bltD .sum)) := callR_imp (callR_or (cr_sum hc) (cr_sumT hc)) fun xs H Q ⟨x, e0, W, st, σ, W1, st1, H1, hx, h, g, r1, e, q⟩ => by
  subst e0
  have e : (intsA st hx).map _ = some h := e
  cases q1 : intsA st hx with
  | none => rw [q1] at e; cases e
  | some ns =>
    rw [q1] at e; cases e
    obtain ⟨a, rfl, h1⟩ := intsA_rel g r1 q1
    refine h1.imp (fun h1 => ⟨a, ns, rfl, h1, q W H _ (.refl ..) g (.int _)⟩) fun h1 => ⟨a, ns, rfl, h1, (fun z => nomatch z), fun m hm => ?_⟩
    rw [hm]
    exact q W H _ (.refl ..) g (.int _)
theorem call_maxl_ (hc : X.calm = true) : CallR X (.builtin "max") (rB1 X.K ca (bltD .maxl)) := callR_imp (callR_or (cr_max hc) (cr_maxT hc)) fun xs H Q ⟨x, e0, W, st, σ, W1, st1, H1, hx, h, g, r1, e, q⟩ => by
  subst e0
  have e : maxlD st hx = some h := e
  unfold maxlD at e
  split at e
  · rename_i n ns q1
    cases e
    obtain ⟨a, rfl, h1⟩ := intsA_rel g r1 q1
    have fin : ∀ m, m ∈ n :: ns → (∀ y, y ∈ n :: ns → y ≤ m) → Q (.int m) H := fun m hm hle => by
      have e1 : m = maxI n ns := Int.le_antisymm (maxI_ge n ns m hm) (hle _ (maxI_mem n ns))
      subst e1
      exact q W H _ (.refl ..) g (.int _)
    exact h1.imp (fun h1 => ⟨a, n :: ns, rfl, h1, by simp, fin⟩) fun h1 => ⟨a, n :: ns, rfl, h1, (fun _ => by simp), fun m hm => fin m hm.1 hm.2⟩
  · cases e
theorem call_minl_ (hc : X.calm = true) : CallR X (.builtin "min") (rB1 X.K ca (bltD .minl)) := callR_imp (callR_or (cr_min hc) (cr_minT hc)) fun xs H Q ⟨x, e0, W, st, σ, W1, st1, H1, hx, h, g, r1, e, q⟩ => by
  subst e0
  have e : minlD st hx = some h := e
  unfold minlD at e
  split at e
  · rename_i n ns q1
    cases e
    obtain ⟨a, rfl, h1⟩ := intsA_rel g r1 q1
    have fin : ∀ m, m ∈ n :: ns → (∀ y, y ∈ n :: ns → m ≤ y) → Q (.int m) H := fun m hm hle => by
      have e1 : m = minI n ns := Int.le_antisymm (hle _ (minI_mem n ns)) (minI_le n ns m hm)
      subst e1
      exact q W H _ (.refl ..) g (.int _)
    exact h1.imp (fun h1 => ⟨a, n :: ns, rfl, h1, by simp, fin⟩) fun h1 => ⟨a, n :: ns, rfl, h1, (fun _ => by simp), fun m hm => fin m hm.1 hm.2⟩
  · cases e
theorem call_str_ : CallR X (.type "str") (rB1 X.K ca (bltD .str)) := callR_imp call_str_int fun xs H Q ⟨x, e0, W, st, σ, W1, st1, H1, hx, h, g, r1, e, q⟩ => by
  subst e0
  have e : strD hx = some h := e
  unfold strD at e
  split at e
  · split at e
    · rename_i hm
      cases e; cases r1
      exact ⟨_, rfl, hm, q W H _ (.refl ..) g (.str _)⟩
    · cases e
  · cases e
theorem call_sorted_ : CallR X (.builtin "sorted") (rB1 X.K ca (bltD .sorted)) := callR_imp cr_sortedI fun xs H Q ⟨x, e0, W, st, σ, W1, st1, H1, hx, h, g, r1, e, q⟩ => by
  subst e0
  have e : (intsH st hx).map _ = some h := e
  cases q1 : intsH st hx with
  | none => rw [q1] at e; cases e
  | some ns =>
    rw [q1] at e; cases e
    obtain ⟨a, rfl, h1⟩ := intsH_rel g r1 q1
    refine ⟨a, ns, rfl, h1, fun ms p hp hs hn => ?_⟩
    rw [sort_eq hp hs]
    exact new_of g (Reps.ints _) q p hn
theorem call_max_ (hc : X.calm = true) : CallR X (.builtin "max") (rB2 X.K ca fun _ => blt2D .max) := callR_imp (call_max2 hc) fun xs H Q ⟨x, y, e0, W, st, σ, W1, st1, H1, W2, st2, H2, hx, hy, h, g, r1, r2, e, q⟩ => by
  subst e0
  have e : maxD hx hy = some h := e
  unfold maxD at e
  split at e
  · cases e; cases r1; cases r2
    exact ⟨_, _, rfl, q W H _ (.refl ..) g (.int _)⟩
  · cases e
theorem call_min_ (hc : X.calm = true) : CallR X (.builtin "min") (rB2 X.K ca fun _ => blt2D .min) := callR_imp (call_min2 hc) fun xs H Q ⟨x, y, e0, W, st, σ, W1, st1, H1, W2, st2, H2, hx, hy, h, g, r1, r2, e, q⟩ => by
  subst e0
  have e : minD hx hy = some h := e
  unfold minD at e
  split at e
  · cases e; cases r1; cases r2
    exact ⟨_, _, rfl, q W H _ (.refl ..) g (.int _)⟩
  · cases e
theorem tyOf_rel {K : PySem.W.Frag} {W W1 : Wd} {st st1 : Sta} {σ : L2.St} {H H1 : Hp} {hx : Hd} {x : V} {u : String} (g : Good K ca W st σ H) (r : RepH K W1 st1 H1 W st σ H x hx) (e : tyOf st hx = some u) : TyX K H x (.type u) := by
  unfold tyOf at e
  split at e
  · cases e; cases r; exact .base .non
  · cases e; cases r; exact .base (.bl _)
  · cases e; cases r; exact .base (.int _)
  · cases e; cases r; exact .base (.str _)
  · cases e
    cases r with
    | tup s t =>
      rcases sameT g.gh s with (h | ⟨o, h⟩) | ⟨o, its, n, h1, h2, _⟩
      · exact .base (.tup h)
      · exact .fTuple h
      · exact .kTuple h1 h2
  · cases e
    cases r with
    | lst s t => exact .base (.lst (g.gh _ _ s))
  · cases e; obtain ⟨p, vs, rfl, h1, _⟩ := r; exact .base (.lst h1)
  · cases e; obtain ⟨p, vs, rfl, h1, _⟩ := r; exact .base (.dK h1)
  · split at e
    · cases e; cases r
      rename_i q _
      obtain ⟨vs, h1, h2⟩ := g.obj _ _ q
      exact .base (.lst h1)
    · cases e; cases r
      rename_i q _
      obtain ⟨vs, h1, h2⟩ := g.obj _ _ q
      exact .base (.dK h1)
    · cases e
  · split at e
    · cases e
      rename_i q
      obtain ⟨e1, vs, h1, h2⟩ := g.slot _ _ q
      rw [show σ[_]? = some (some x) from r] at e1
      cases (show x = _ from Option.some.inj e1)
      exact .base (.lst h1)
    · cases e
      rename_i q
      obtain ⟨e1, vs, h1, h2⟩ := g.slot _ _ q
      rw [show σ[_]? = some (some x) from r] at e1
      cases (show x = _ from Option.some.inj e1)
      exact .base (.dK h1)
    · cases e
  · cases e
def rIs (K : PySem.W.Frag) (ca : Ci) (t : Ty) : List V → Hp → VK → Prop := fun xs H Q => ∃ x, xs = [x, .ty (tyN t)] ∧ rD1 K ca (isiD t) x H Q
theorem call_isi_ (t : Ty) : CallR X (.builtin "isinstance") (rIs X.K ca t) := callR_imp call_isi fun xs H Q ⟨x, e0, W, st, σ, W1, st1, H1, hx, h, g, r1, e, q⟩ => by
  subst e0
  unfold isiD at e
  cases q1 : tyOf st hx with
  | none => rw [q1] at e; cases e
  | some u =>
    rw [q1] at e
    cases q2 : kitB u (tyN t) with
    | none => simp [q2] at e
    | some b =>
      simp [q2] at e
      subst e
      exact ⟨x, _, _, _, b, rfl, .ty _, tyOf_rel g r1 q1, kit_ty q2, q W H _ (.refl ..) g (.bl _)⟩
end
/-! ### sorted(set(xs)) -/
abbrev mtS (w : World) : Obj := { cls := .type "set", dict := none, data := .set #[] 0 (.fresh 0 0 (!w.params.followText "set-order")) }
structure Filled (w : World) (h h' : Heap) (a : Addr) (ns : List Int) (c : Nat) : Prop where
  set : SetR w h' a (fun j => decide (j ∈ ns)) c
  few : c ≤ ns.length
  old : ∀ b o, h.get? b = some o → h'.get? b = some o
section
variable {P : Program} {w : World} {A : Around} {E : Value → Shared → Prop} {s : Shared}
/-- the ints of a list put into an empty set -/
theorem fill_list {S l : Addr} {vs : Array Value} {ns : List Int} (hh : A.handled = none) (hS : s.heap.get? S = some (mtS w)) (hl : s.heap.IsList l vs) (hne : l ≠ S) (hi : IntsAre vs.toList ns) (hb : ns.length + 1 < scanBound) {R : Value → Shared → Prop}
    (hR : ∀ h' tk c, SetR w h' S (fun j => decide (j ∈ ns)) c → c ≤ ns.length → (∀ b o, b ≠ S → s.heap.get? b = some o → h'.get? b = some o) → R .none { s with heap := h', toks := tk }) :
    wpAny (model P w) A.in1 (Builtin.«set.__init__» ⟨[.ref S, .ref l], []⟩) (fun fin t => match fin with
      | .done f => wants R E (.ok f) t
      | .again c => c.quiet = true ∧ codeAny (model P w) A c (wants R E) t) (fun e t => wants R E (.error e) t) s := by
  have hnum : vs.size = ns.length := by
    have := IntsAre.length hi
    rwa [Array.length_toList] at this
  have hSlt := Heap.lt_size hS
  have hllt : l < s.heap.objs.size := by
    obtain ⟨o, ho, _⟩ := hl
    exact Heap.lt_size ho
  have hval : ∀ (i : Nat) (v : Value), vs[i]? = some v → ∃ k t, ns[i]? = some k ∧ v = .int k t := fun i v hv => by
    obtain ⟨t, e⟩ := IntsAre.int_at hi i v (by rw [Array.getElem?_toList]; exact hv)
    have hlt : i < ns.length := by rw [← hnum]; exact (Array.getElem?_eq_some_iff.mp hv).1
    exact ⟨ns[i], t, List.getElem?_eq_getElem hlt, by rw [e, List.getD_eq_getElem?_getD, List.getElem?_eq_getElem hlt]; rfl⟩
  have q1 := PySem.F.sub_list_set
  have q2 := PySem.F.sub_list_frozenset
  have q3 : (Value.type "list" == Value.type "dict") = false := by decide
  have hl0 := hl
  obtain ⟨⟨k1, k2, k3, k4⟩, ho, e1, nl, e2⟩ := hl
  simp only at e1 e2
  subst e1 e2
  unfold Builtin.«set.__init__» noKeywords Builtin.Frozenset.updateFrom
  generalize hp : pyIter = f
  wp_walk
  subst hp
  refine wpAny_pyIter_list hl0 (wpAny_bind (wpAny_runValue ?_))
  have hin : A.in1.in1.handled = none := by simp [hh]
  have n1 : l ≠ s.heap.objs.size := Nat.ne_of_lt hllt
  have n2 : S ≠ s.heap.objs.size := Nat.ne_of_lt hSlt
  have n3 : S ∉ [s.heap.objs.size, l] := by simp [n2, Ne.symm hne]
  have wk := (Walks.list (prog := P) (w := w) hin s.heap.objs.size l n1 vs).toS
  refine set_update_ints wk S n3 ns hnum hb hval vs.size 0 _ (Nat.sub_zero _) (Nat.zero_le _) ⟨⟨_, Heap.get?_push_size _ rfl, rfl, rfl⟩, hl0.push _⟩ ⟨0, Nat.le_refl 0, setR_new_at (Heap.get?_push_of_some _ hS)⟩ fun t c hm hc hset => ?_
  have m1 := hm.gens
  have m2 := hm.drawn
  have m3 := hm.os
  have m4 := hm.heap
  obtain ⟨h', g', d', tk, os'⟩ := t
  simp only at m1 m2 m3 m4 hset
  subst m1 m2 m3
  refine wpAny_pure (wpAny_pure (hR h' tk c hset (by omega) fun b o hbS hbo => m4 b o ?_ (Heap.get?_push_of_some _ hbo)))
  have := Heap.lt_size hbo
  simp only [List.mem_cons, List.not_mem_nil, or_false, not_or]
  exact ⟨hbS, Nat.ne_of_lt this⟩
theorem call_setL {l : Addr} {vs : Array Value} {ns : List Int} {Q : Value → Shared → Prop} (hh : A.handled = none) (hl : s.heap.IsList l vs) (hi : IntsAre vs.toList ns) (hb : ns.length + 1 < scanBound)
    (hQ : ∀ h' tk c, Filled w s.heap h' s.heap.objs.size ns c → Q (.ref s.heap.objs.size) { s with heap := h', toks := tk }) :
    wpAny (model P w) A (call (.type "set") [.ref l]) Q E s := by
  have mk := PySem.F.called_set
  obtain ⟨c, tl, hmro⟩ := mk.mro
  have hmade := mk.made
  have hsub := mk.sub
  have h1 := mk.notType
  have h2 := mk.canCreate
  have hli := mk.init.lookup
  have hbi := mk.init.bind (.ref s.heap.objs.size)
  have hct := PySem.F.typeCall_set_1 (.ref l)
  refine wpAny_call (codeAny_of_tree ?_)
  show wpAny _ _ (callAny (.type "set") _) _ _ _
  refine wpAny_pure ⟨Code.quiet_builtin _ (by decide +kernel), codeAny_builtin PySem.F.entry_type_call ?_⟩
  rw [Around.under_plain (weight_type_call_type "set" [.ref l] []) rfl]
  repeat (any_goals (first | assumption | wp_step))
  refine codeAny_mono (code_set_led1 (.ref l) (E := E) (Q₁ := fun v t => v = .ref s.heap.objs.size ∧ t = { s with heap := s.heap.push (mtS w) }) ⟨rfl, rfl⟩) fun r t hr => ?_
  cases r with
  | error _ => exact hr
  | ok fl =>
  cases fl with
  | ret v =>
    have e1 := hr.1
    have e2 := hr.2
    subst e1 e2
    have hS : (s.heap.push (mtS w)).get? s.heap.objs.size = some (mtS w) := Heap.get?_push_size _ rfl
    have hT : Shared.TypeIs { s with heap := s.heap.push (mtS w) } (.ref s.heap.objs.size) "set" := ⟨_, hS, rfl⟩
    repeat (any_goals (first | assumption | wp_step))
    refine codeAny_mono (codeAny_call_builtin (R := wants (fun r t => r = .none ∧ ∃ h' tk c, t = { s with heap := h', toks := tk } ∧ Filled w s.heap h' s.heap.objs.size ns c) E) mk.init.plain PySem.F.entry_set_init (check_set_init_1 hT ?_)) fun r2 t2 hr2 => ?_
    · have hl1 := hl
      obtain ⟨o, ho, _⟩ := hl1
      have hlt := Heap.lt_size ho
      refine fill_list (s := { s with heap := s.heap.push (mtS w) }) (vs := vs) (ns := ns) (by simp [hh]) hS (hl.push _) (Nat.ne_of_lt hlt) hi hb fun h' tk c hset hc hk => ?_
      exact ⟨rfl, h', tk, c, rfl, hset, hc, fun b o hbo => hk b o (Nat.ne_of_lt (Heap.lt_size hbo)) (Heap.get?_push_of_some _ hbo)⟩
    · cases r2 with
      | error _ => exact hr2
      | ok f2 =>
      cases f2 with
      | ret r3 =>
        obtain ⟨e3, h', tk, c', e4, hf⟩ := hr2
        subst e3 e4
        repeat (any_goals (first | assumption | wp_step))
        exact hQ _ _ _ hf
      | _ => exact hr2.elim
  | _ => exact hr.elim
end
theorem insU_mem (k j : Int) : ∀ xs : List Int, j ∈ insU k xs ↔ j = k ∨ j ∈ xs
  | [] => by simp [insU]
  | x :: xs => by
    unfold insU
    split
    · simp
    · split
      · rename_i h; subst h; simp
      · simp only [List.mem_cons, insU_mem k j xs]
        constructor
        · rintro (h | h | h)
          · exact .inr (.inl h)
          · exact .inl h
          · exact .inr (.inr h)
        · rintro (h | h | h)
          · exact .inr (.inl h)
          · exact .inl h
          · exact .inr (.inr h)
theorem insU_asc (k : Int) : ∀ xs : List Int, xs.Pairwise (· < ·) → (insU k xs).Pairwise (· < ·)
  | [], _ => by simp [insU]
  | x :: xs, h => by
    have hx := List.pairwise_cons.1 h
    unfold insU
    split
    · rename_i hk
      refine List.pairwise_cons.2 ⟨fun y hy => ?_, h⟩
      rcases List.mem_cons.1 hy with e | hy
      · omega
      · have := hx.1 y hy; omega
    · split
      · exact h
      · refine List.pairwise_cons.2 ⟨fun y hy => ?_, insU_asc k xs hx.2⟩
        rcases (insU_mem k y xs).1 hy with e | hy
        · omega
        · exact hx.1 y hy
theorem sortU_mem (j : Int) : ∀ xs : List Int, j ∈ sortU xs ↔ j ∈ xs
  | [] => Iff.rfl
  | x :: xs => by
    show j ∈ insU x (sortU xs) ↔ _
    rw [insU_mem, sortU_mem j xs, List.mem_cons]
theorem sortU_asc : ∀ xs : List Int, (sortU xs).Pairwise (· < ·)
  | [] => List.Pairwise.nil
  | x :: xs => insU_asc x _ (sortU_asc xs)
theorem asc_eq : ∀ {xs ys : List Int}, xs.Pairwise (· < ·) → ys.Pairwise (· < ·) → (∀ j, j ∈ xs ↔ j ∈ ys) → xs = ys
  | [], [], _, _, _ => rfl
  | [], y :: ys, _, _, h => by have := (h y).2 List.mem_cons_self; cases this
  | x :: xs, [], _, _, h => by have := (h x).1 List.mem_cons_self; cases this
  | x :: xs, y :: ys, hx, hy, h => by
    have ax := List.pairwise_cons.1 hx
    have ay := List.pairwise_cons.1 hy
    have e : x = y := by
      rcases List.mem_cons.1 ((h x).1 List.mem_cons_self) with e | m1
      · exact e
      · rcases List.mem_cons.1 ((h y).2 List.mem_cons_self) with e | m2
        · exact e.symm
        · have := ax.1 y m2; have := ay.1 x m1; omega
    subst e
    rw [asc_eq ax.2 ay.2 fun j => ?_]
    constructor
    · intro m
      rcases List.mem_cons.1 ((h j).1 (List.mem_cons_of_mem _ m)) with e | m'
      · subst e; exact absurd (ax.1 _ m) (Int.lt_irrefl _)
      · exact m'
    · intro m
      rcases List.mem_cons.1 ((h j).2 (List.mem_cons_of_mem _ m)) with e | m'
      · subst e; exact absurd (ay.1 _ m) (Int.lt_irrefl _)
      · exact m'
section
variable {X : Cx}
/-- set(xs) of a list of ints -/
def rSetIL (K : PySem.W.Frag) (w : World) : List V → Hp → VK → Prop := fun xs H Q => ∃ (a : Addr) (ns : List Int), xs = [.ref a] ∧ SqL K H a (ns.map V.int) ∧ ns.length < 64 ∧
  ∀ (c : Nat) (p : Addr), c ≤ ns.length → H p = none → Q (.ref p) (upd H p (SetO w p (fun j => decide (j ∈ ns)) c))
theorem cr_setL (hc : X.calm = true) : CallR X (.type "set") (rSetIL X.K X.w) := by
  intro pins s σ H vs us Q I r h
  obtain ⟨a, ns, rfl, hs, h64, q⟩ := h
  obtain ⟨its, rv, hl, hz⟩ := I.list hs
  rw [Vals.ref1 r]
  refine call_setL (I.ok.hd hc) hl.isList rv.ints (by unfold scanBound; omega) fun h' tk c f => ?_
  exact ⟨.ref _, upd H s.heap.objs.size (SetO X.w s.heap.objs.size (fun j => decide (j ∈ ns)) c), I.laid (t' := tk) (fun b u e => f.old b u e) (Nat.le_refl _) (setO_new f.set), rfl, q c _ f.few (I.hok.fresh (Nat.le_refl _))⟩
end
end EV
namespace EV
open PySem PySem.Spec PyProof.Rows L2
/-! ### the text and the small language -/
structure Nm where
  N : List Str
  fn : List Str
  gl : List Str
  ex : List Str
  /-- the classes, the def of each __init__; the fields' names -/
  cl : List (Str × Nat)
  flds : List Str
def visB (sc : Scope) (x : Str) : Bool := match sc.names.lookup x with
  | some .local => true
  | some .cell => true
  | some .free => true
  | _ => false
def locB (sc : Scope) (x : Str) : Bool := match sc.names.lookup x with
  | some .local => true
  | some .cell => true
  | _ => false
def glB (sc : Scope) (x : Str) : Bool := match sc.names.lookup x with
  | some .globalImplicit => true
  | _ => false
def notDbg (x : Str) : Bool := (!(x == ("__debug__" : Str)) && !(x == ("__classdict__" : Str)) && !decide (x = ("__name__" : Str))) && !decide (x = Str.empty)
def bltT : Blt → Str × Bool
  | .abs => ("abs", false)
  | .len => ("len", false)
  | .int => ("int", true)
  | .list => ("list", true)
  | .tuple => ("tuple", true)
  | .sum => ("sum", false)
  | .maxl => ("max", false)
  | .minl => ("min", false)
  | .str => ("str", true)
  | .sorted => ("sorted", false)
def bltC : Blt → Bool
  | .sum => true
  | .maxl => true
  | .minl => true
  | _ => false
def blt2N : Blt2 → Str
  | .max => "max"
  | .min => "min"
def tyS : Ty → Str
  | .int => "int"
  | .bool => "bool"
  | .str => "str"
  | .list => "list"
  | .tuple => "tuple"
  | .dict => "dict"
def cstB : Dt → Const → Bool
  | .int i, .int j => decide (i = j)
  | .bl b, .bool c => decide (b = c)
  | .str x, .str y => decide (x = y)
  | .non, .none => true
  | _, _ => false
def varB (nm : Nm) (sc : Scope) (i : Nat) (x : Str) : Bool := decide (nm.N[i]? = some x) && (visB sc x && notDbg x)
def ixB : Expr → Bool
  | .Slice .. => false
  | _ => true
def starB : Expr → Bool
  | .Starred .. => false
  | _ => true
def attrB : Expr → Bool
  | .Call (.Name _ _) [] [] _ => false
  | _ => true
def setB : Expr → Bool
  | .Set .. => false
  | _ => true
def tgB (nm : Nm) (sc : Scope) : List Nat → List Expr → Bool
  | [], [] => true
  | i :: is, .Name x _ :: es => decide (nm.N[i]? = some x) && (locB sc x && tgB nm sc is es)
  | _, _ => false
def notTup : Expr → Bool
  | .Tuple .. => false
  | _ => true
/-- parts of a target -/
def tpB (nm : Nm) (sc : Scope) : List Tp → List Expr → Bool
  | [], [] => true
  | .sl i :: ts, .Name x _ :: es => decide (nm.N[i]? = some x) && (locB sc x && tpB nm sc ts es)
  | .fl i f :: ts, .Attribute (.Name x _) m _ :: es => varB nm sc i x && (decide (m = f) && (decide (f ∈ nm.flds) && tpB nm sc ts es))
  | _, _ => false
def Tg.chk (nm : Nm) (sc : Scope) : Tg → Expr → Bool
  | .name i, .Name x _ => decide (nm.N[i]? = some x) && locB sc x
  | .tup is, .Tuple es _ _ => tgB nm sc is es
  | _, _ => false
def Tg.within (own : List Nat) : Tg → Bool
  | .name i => decide (i ∈ own)
  | .tup is => is.all fun i => decide (i ∈ own)
def own2 (nm : Nm) (own : List Nat) : List (Str × Nat) := own.map fun i => (nm.N.getD i Str.empty, i)
mutual
def chkE (nm : Nm) (calm : Bool) (sc : Scope) : E → Expr → Bool
  | .var i, .Name x _ => varB nm sc i x
  | .frz i, .Name x _ => varB nm sc i x
  | .cst d, .Constant c _ _ => cstB d c
  | .glob g, .Name x _ => decide (nm.gl[g]? = some x) && (glB sc x && notDbg x)
  | .bin o a b, .BinOp l op r _ => decide (op = opO o) && (chkE nm calm sc a l && chkE nm calm sc b r)
  | .cmp o a b, .Compare l ops rs _ => (match ops, rs with
    | [op], [r] => decide (op = cmpO o) && (!behindInMarks op r && (chkE nm calm sc a l && chkE nm calm sc b r))
    | _, _ => false)
  | .chain o p a b c, .Compare l ops rs _ => (match ops, rs with
    | [op, op'], [m, r] => decide (op = cmpO o) && (decide (op' = cmpO p) && (!behindInMarks op' r && (chkE nm calm sc a l && (chkE nm calm sc b m && chkE nm calm sc c r))))
    | _, _ => false)
  | .ix a b, .Subscript l r _ => ixB r && (chkE nm calm sc a l && chkE nm calm sc b r)
  | .un o a, .UnaryOp op l _ => decide (op = unO o) && chkE nm calm sc a l
  | .not a, .UnaryOp .Not l _ => chkE nm calm sc a l
  | .and a b, .BoolOp .And vs p => (match vs with
    | [l, r] => chkE nm calm sc a l && chkE nm calm sc b r
    | l :: m :: r :: rs => chkE nm calm sc a l && chkE nm calm sc b (.BoolOp .And (m :: r :: rs) p)
    | _ => false)
  | .or a b, .BoolOp .Or vs p => (match vs with
    | [l, r] => chkE nm calm sc a l && chkE nm calm sc b r
    | l :: m :: r :: rs => chkE nm calm sc a l && chkE nm calm sc b (.BoolOp .Or (m :: r :: rs) p)
    | _ => false)
  | .ife t a b, .IfExp c l r _ => chkE nm calm sc t c && (chkE nm calm sc a l && chkE nm calm sc b r)
  | .tup es, .Tuple ls _ _ => chkEs nm calm sc es ls
  | .lst es, .List ls _ => chkEs nm calm sc es ls
  | .call f es, .Call (.Name x _) ls [] _ => calm && (decide (nm.fn[f]? = some x) && (glB sc x && (notDbg x && (!ls.isEmpty && chkEs nm calm sc es ls))))
  | .blt b a, .Call (.Name x _) [l] [] _ => (!bltC b || calm) && (decide (x = (bltT b).1) && (glB sc x && (starB l && chkE nm calm sc a l)))
  | .blt2 b a c, .Call (.Name x _) [l, r] [] _ => calm && (decide (x = blt2N b) && (glB sc x && (starB l && (starB r && (chkE nm calm sc a l && chkE nm calm sc c r)))))
  | .isi a t, .Call (.Name x _) [l, .Name y _] [] _ => decide (x = ("isinstance" : Str)) && (decide (y = tyS t) && (glB sc x && (glB sc y && (starB l && chkE nm calm sc a l))))
  | .exi i c, .Call (.Name x _) [.Name z _, .Name y _] [] _ => decide (x = ("isinstance" : Str)) && (decide (nm.ex[c]? = some y) && (glB sc x && (glB sc y && (notDbg y && varB nm sc i z))))
  | .comp elt it tg cond own, .ListComp el gs scope _ => (match gs with
    | [⟨t, i, ifs, 0⟩] => calm && (blkC nm.N sc scope (own2 nm own) && (setB i && (chkI nm calm sc it t i && (tg.chk nm scope t && (tg.within own && ((match ifs with
      | [] => (match cond with
        | .cst (.bl true) => true
        | _ => false)
      | [c] => chkE nm calm (relS scope sc) cond c
      | _ => false) && chkE nm calm (relS scope sc) elt el))))))
    | _ => false)
  | .comp2 elt it tg it1 tg1 own own1, .ListComp el gs scope _ => (match gs with
    | [⟨t, i, [], 0⟩, ⟨t1, i1, [], 0⟩] => calm && (blkC nm.N sc scope (own2 nm own) && (setB i && (setB i1 && (chkI nm calm sc it t i && (chkI nm calm (relS scope sc) it1 t1 i1 && (tg.chk nm scope t && (tg1.chk nm scope t1 && (tg.within own && (tg1.within own1 && ((own1.all fun i => decide (i ∈ own)) && chkE nm calm (relS scope sc) elt el))))))))))
    | _ => false)
  | .sset a, .Call (.Name x _) [.Call (.Name y _) [l] [] _] [] _ => calm && (decide (x = ("sorted" : Str)) && (decide (y = ("set" : Str)) && (glB sc x && (glB sc y && (starB l && chkE nm calm sc a l)))))
  | .lrg1 a, .Call (.Name x _) [.Call (.Name y _) [l] [] _] [] _ => calm && (decide (x = ("list" : Str)) && (decide (y = ("range" : Str)) && (glB sc x && (glB sc y && (starB l && chkE nm calm sc a l)))))
  | .lrg2 a b, .Call (.Name x _) [.Call (.Name y _) [l, r] [] _] [] _ => calm && (decide (x = ("list" : Str)) && (decide (y = ("range" : Str)) && (glB sc x && (glB sc y && (starB l && (starB r && (chkE nm calm sc a l && chkE nm calm sc b r)))))))
  | .find a b, .Call (.Attribute l m ap) [r] [] p => decide (m = ("find" : Str)) && ((ap.endLine == p.line) && (attrB l && (starB r && (chkE nm calm sc a l && chkE nm calm sc b r))))
  | .pop i e, .Call (.Attribute (.Name x _) m ap) [r] [] p => decide (m = ("pop" : Str)) && ((ap.endLine == p.line) && (starB r && (varB nm sc i x && chkE nm calm sc e r)))
  | .dnew, .Dict [] [] _ => true
  | .dix a b, .Subscript l r _ => ixB r && (chkE nm calm sc a l && chkE nm calm sc b r)
  | .din g a b, .Compare l ops rs _ => (match ops, rs with
    | [op], [r] => decide (op = (if g then .In else .NotIn)) && (!behindInMarks op r && (chkE nm calm sc a l && chkE nm calm sc b r))
    | _, _ => false)
  | .idx a b, .Call (.Attribute l m ap) [r] [] p => decide (m = ("index" : Str)) && ((ap.endLine == p.line) && (attrB l && (starB r && (chkE nm calm sc a l && chkE nm calm sc b r))))
  | .bits a, .Call (.Attribute l m ap) [] [] p => decide (m = ("bit_length" : Str)) && ((ap.endLine == p.line) && (attrB l && chkE nm calm sc a l))
  | .revl a, .Subscript l (.Slice none none (some (.UnaryOp .USub (.Constant (.int 1) _ _) _)) _) _ => chkE nm calm sc a l
  | .revs a, .Subscript l (.Slice none none (some (.UnaryOp .USub (.Constant (.int 1) _ _) _)) _) _ => chkE nm calm sc a l
  | .sl a l lo h hi, .Subscript x (.Slice pl ph none _) _ => chkE nm calm sc a x && ((match l, pl with
    | true, some e => chkE nm calm sc lo e
    | false, none => true
    | _, _ => false) && (match h, ph with
    | true, some e => chkE nm calm sc hi e
    | false, none => true
    | _, _ => false))
  | .fld a f, .Attribute l m _ => decide (m = f) && (decide (f ∈ nm.flds) && (attrB l && chkE nm calm sc a l))
  | .meth a m es, .Call (.Attribute l m' ap) ls [] p => calm && (decide (m' = m) && ((ap.endLine == p.line) && (decide (ls.length < 29) && (attrB l && (chkE nm calm sc a l && chkEs nm calm sc es ls)))))
  | .make c g es, .Call (.Name x _) ls [] _ => calm && (decide (nm.cl[c]? = some (x, g)) && (glB sc x && (notDbg x && chkEs nm calm sc es ls)))
  | .popl a, .Call (.Attribute l m ap) [] [] p => decide (m = ("pop" : Str)) && ((ap.endLine == p.line) && (attrB l && chkE nm calm sc a l))
  | .mkbox a, e => chkE nm calm sc a e
  | .app a e, .Call (.Attribute l m ap) [r] [] p => decide (m = ("append" : Str)) && ((ap.endLine == p.line) && (attrB l && (starB r && (chkE nm calm sc a l && chkE nm calm sc e r))))
  | _, _ => false
def chkEs (nm : Nm) (calm : Bool) (sc : Scope) : Es → List Expr → Bool
  | .nil, [] => true
  | .cons e es, l :: ls => starB l && (chkE nm calm sc e l && chkEs nm calm sc es ls)
  | _, _ => false
def chkI (nm : Nm) (calm : Bool) (sc : Scope) : It → Expr → Expr → Bool
  | .rng1 a, _, .Call (.Name x _) [l] [] _ => decide (x = ("range" : Str)) && (glB sc x && (starB l && chkE nm calm sc a l))
  | .rng2 a b, _, .Call (.Name x _) [l, r] [] _ => decide (x = ("range" : Str)) && (glB sc x && (starB l && (starB r && (chkE nm calm sc a l && chkE nm calm sc b r))))
  | .enum a, .Tuple _ _ _, .Call (.Name x _) [l] [] _ => decide (x = ("enumerate" : Str)) && (glB sc x && (starB l && chkE nm calm sc a l))
  | .zip a b, .Tuple _ _ _, .Call (.Name x _) [l, r] [] _ => decide (x = ("zip" : Str)) && (glB sc x && (starB l && (starB r && (chkE nm calm sc a l && chkE nm calm sc b r))))
  | .seq a, _, e => chkE nm calm sc a e
  | .str a, _, e => chkE nm calm sc a e
  | _, _, _ => false
end
/-- y = [..] on one line, y a local -/
def swB (sc : Scope) (y : Str) (py : Pos) : Expr → Bool
  | .ListComp _ _ scope pos => (match sc.names.lookup y with
    | some .local => true
    | _ => false) && ((py.line == pos.line) && !(scope.names.any fun (n, k) => n == y && (k == .local || k == .cell)))
  | _ => false
def noSwap : Expr → Expr → Bool
  | .Tuple .., .Tuple .. => false
  | .List .., .Tuple .. => false
  | _, _ => true
def isLc : Expr → Bool
  | .ListComp .. => true
  | .SetComp .. => true
  | .DictComp .. => true
  | _ => false
/-- a cell: no swap -/
def lcN (sc : Scope) : Expr → Bool
  | .Name y _ => (match sc.names.lookup y with
    | some .cell => true
    | _ => false)
  | _ => false
def lcB (sc : Scope) : Expr → Expr → Bool
  | .Name y py, v => swB sc y py v
  | _, _ => false
mutual
def chkS (nm : Nm) (calm : Bool) (sc : Scope) : S → Stmt → Bool
  | .asg t _ e, .Assign ts v _ => (match ts with
    | [tg] => calm && (noSwap tg v && t.chk nm sc tg && (chkE nm calm sc e v && (!isLc v || (lcN sc tg || lcB sc tg v))))
    | _ => false)
  | .aug i o e, .AugAssign (.Name x _) op v _ => decide (op = opO o) && (decide (nm.N[i]? = some x) && (locB sc x && chkE nm calm sc e v))
  | .setix a i e, .Assign ts v _ => (match ts with
    | [.Subscript l r _] => calm && (!isLc v && (ixB r && (chkE nm calm sc e v && (chkE nm calm sc a l && chkE nm calm sc i r))))
    | _ => false)
  | .dput a i e, .Assign ts v _ => (match ts with
    | [.Subscript l r _] => calm && (!isLc v && (ixB r && (chkE nm calm sc e v && (chkE nm calm sc a l && chkE nm calm sc i r))))
    | _ => false)
  | .setf _ a f e, .Assign ts v _ => (match ts with
    | [.Attribute l m _] => calm && (!isLc v && (decide (m = f) && (decide (f ∈ nm.flds) && (chkE nm calm sc e v && chkE nm calm sc a l))))
    | _ => false)
  | .augx a i o e, .AugAssign (.Subscript l r _) op v _ => decide (op = opO o) && (ixB r && (chkE nm calm sc a l && (chkE nm calm sc i r && chkE nm calm sc e v)))
  | .asgM ts e, .Assign tgs v _ => (match tgs with
    | [.Tuple es _ _] => calm && (tpB nm sc ts es && (!isLc v && (notTup v && chkE nm calm sc e v)))
    | _ => false)
  | .expr e, .Expr v _ => !isLc v && chkE nm calm sc e v
  | .ret e, .Return (some v) _ => chkE nm calm sc e v
  | .retN, .Return none _ => true
  | .iff t a b, .If c l r _ => chkE nm calm sc t c && (chkSs nm calm sc a l && chkSs nm calm sc b r)
  | .for_ t it body, .For tg i b oe _ => calm && (oe.isEmpty && (setB i && (t.chk nm sc tg && (chkI nm calm sc it tg i && chkSs nm calm sc body b))))
  | .whl t body, .While c b oe _ => calm && (oe.isEmpty && (chkE nm calm sc t c && chkSs nm calm sc body b))
  | .raise c, .Raise (some (.Call (.Name x _) [.Constant (.str _) _ _] [] _)) none _ => calm && (decide (nm.ex[c]? = some x) && (glB sc x && notDbg x))
  | .try_ body c i suite, .Try b hs oe fb _ => (match hs with
    | [.ExceptHandler (some (.Name x _)) (some n) (s0 :: ss) _] => calm && (oe.isEmpty && (fb.isEmpty && (decide (nm.ex[c]? = some x) && (glB sc x && (notDbg x && (decide (nm.N[i]? = some n) && ((match sc.names.lookup n with
      | some .local => true
      | _ => false) && (chkSs nm calm sc body b && chkSs nm false sc suite (s0 :: ss)))))))))
    | _ => false)
  | .pass, .Pass _ => true
  | .brk, .Break _ => true
  | .cont, .Continue _ => true
  | _, _ => false
def chkSs (nm : Nm) (calm : Bool) (sc : Scope) : Ss → List Stmt → Bool
  | .nil, [] => true
  | .cons s ss, l :: ls => chkS nm calm sc s l && chkSs nm calm sc ss ls
  | _, _ => false
end
end EV
namespace EV
open PySem PySem.Spec PyProof.Rows L2
theorem _root_.L2.PE.imp {X : Cx} {e : Expr} {t t' : TE} (h : PE X e t) (i : ∀ σ H Q, t' σ H Q → t σ H Q) : PE X e t' := ⟨fun pins s σ H Q I q => h.run pins s σ H Q I (i σ H Q q)⟩
theorem _root_.L2.PT.imp {X : Cx} {e : Expr} {t t' : TT} (h : PT X e t) (i : ∀ σ H Q, t' σ H Q → t σ H Q) : PT X e t' := ⟨fun pins s σ H Q I q => h.run pins s σ H Q I (i σ H Q q)⟩
theorem _root_.L2.PA.imp {X : Cx} {e : List Expr} {t t' : TA} (h : PA X e t) (i : ∀ σ H Q, t' σ H Q → t σ H Q) : PA X e t' := ⟨fun pos pins s σ H Q I q => h.run pos pins s σ H Q I (i σ H Q q)⟩
section
variable {K : PySem.W.Frag} {ca : Ci} {ec : Nat → Addr} {wx : WX} {W W0 : Wd} {st st0 : Sta} {σ : L2.St} {H H0 : Hp} {Q : VK} {α : Type}
/-- an expression's continuation, seen from a later state -/
def PK_ (K : PySem.W.Frag) (W : Wd) (st : Sta) (σ : L2.St) (H : Hp) (Q : VK) : Wd → Sta → Hp → Hd → Prop := fun W' st' H' h => ∀ v, RepH K W st H W' st' σ H' v h → Q v H'
theorem pk_early {W' : Wd} {st' : Sta} {H' : Hp} {h : Hd} (f : Frm W0 st0 H0 W st H) (p : PK_ K W0 st0 σ H0 Q W' st' H' h) : PK_ K W st σ H Q W' st' H' h := fun v r => p v (r.early f)
/-- an operation's end -/
theorem rD_of {op : Sta → Hd → Hd → Option Hd} {x y : Hd} {v u : V} {Wa Wb : Wd} {sa sb : Sta} {Ha Hb : Hp} (f : Frm W0 st0 H0 W st H) (g : Good K ca W st σ H) (r1 : RepH K Wa sa Ha W st σ H v x) (r2 : RepH K Wb sb Hb W st σ H u y)
    (p : Post K ca ec wx W st σ H (ofO st (op st x y)) (PK_ K W0 st0 σ H0 Q)) : rD K ca op v u H Q := by
  cases e : op st x y with
  | none => rw [e] at p; exact p.elim
  | some h =>
    rw [e] at p
    exact ⟨W, st, σ, Wa, sa, Ha, Wb, sb, Hb, x, y, h, g, r1, r2, e, fun W' H' v fr g' r => p W' H' fr g' v (r.early f)⟩
theorem rD1_of {op : Sta → Hd → Option Hd} {x : Hd} {v : V} {Wa : Wd} {sa : Sta} {Ha : Hp} (f : Frm W0 st0 H0 W st H) (g : Good K ca W st σ H) (r1 : RepH K Wa sa Ha W st σ H v x)
    (p : Post K ca ec wx W st σ H (ofO st (op st x)) (PK_ K W0 st0 σ H0 Q)) : rD1 K ca op v H Q := by
  cases e : op st x with
  | none => rw [e] at p; exact p.elim
  | some h =>
    rw [e] at p
    exact ⟨W, st, σ, Wa, sa, Ha, x, h, g, r1, e, fun W' H' v fr g' r => p W' H' fr g' v (r.early f)⟩
theorem op2_of {op : Sta → Hd → Hd → Option Hd} {ma mb : Sta → Res Hd} (h : tE K ca ec wx (fun st => (ma st).bind fun x st1 => (behind x mb st1).bind fun y st2 => ofO st2 (op st2 x y)) σ H Q) :
    tOp (rD K ca op) (tE K ca ec wx ma) (tE K ca ec wx mb) σ H Q := by
  obtain ⟨W, st, g, p⟩ := h
  refine ⟨W, st, g, p.bind.mono fun W1 st1 H1 x f1 g1 p1 v r1 => ?_⟩
  obtain ⟨st1', g1', hb, p2⟩ := behind_run g1 r1 p1.bind
  refine ⟨W1, st1', g1', p2.mono fun W2 st2' H2 y f2 g2' ⟨b, g2, f2', r1', p3⟩ u r2 => ?_⟩
  exact rD_of (f1.trans f2') g2 r1' (r2.setro (b := b) (b0 := st1'.ro)) p3
/-- truth of what is True or False -/
theorem truth_run {r : Res Hd} {P : Wd → Sta → Hp → Bool → Prop} (p : Post K ca ec wx W st σ H r.truth P) : Post K ca ec wx W st σ H r fun W' st' H' h => ∃ b, h = .val (.bl b) ∧ P W' st' H' b := by
  refine p.bind.mono fun W' st' H' h f g p' => ?_
  unfold Hd.truth at p'
  split at p'
  · rename_i h1
    split at h1
    · cases h1
      exact ⟨_, rfl, p' W' H' (.refl ..) g⟩
    · cases h1
  · exact p'.elim
theorem dt_run {r : Res Hd} {P : Wd → Sta → Hp → Dt → Prop} (p : Post K ca ec wx W st σ H r.dt P) : Post K ca ec wx W st σ H r fun W' st' H' h => ∀ v, RepH K W st H W' st' σ H' v h → ∃ d W2, Frm W st H W2 st' H' ∧ Good K ca W2 st' σ H' ∧ Rep K W2 v d ∧ Ext W' W2 ∧ P W2 st' H' d := by
  cases r with
  | stuck => exact p
  | exc c st' => exact p
  | ok h st' =>
    intro W' H' f g v r
    have p' : Post K ca ec wx W st σ H (match h.dt with
      | some d => Res.ok d st'
      | none => .stuck) P := p
    cases h with
    | val d => exact ⟨d, W', f, g, r, .refl _, p' W' H' f g⟩
    | new ds =>
      obtain ⟨W2, f2, g2, r2, x2⟩ := frz_new f g r
      exact ⟨_, W2, f2, g2, r2, x2, p' W2 H' f2 g2⟩
    | newd kvs => exact p'.elim
    | own i => exact p'.elim
    | fld n g => exact p'.elim
end
/-! ### the facts of a body -/
def spF (K : PySem.W.Frag) (ca : Ci) (ec : Nat → Addr) (f : Bool → List Dt → List Ob → CRes) (n : Nat) : Sp := fun vs H Q E => ∃ W S ro ds, vs.length = n ∧ Good K ca W ⟨[], S, ro⟩ [] H ∧ Reps K W vs ds ∧ (match f ro ds S with
  | .ok h S' => ∀ W' H' v, Frm W ⟨[], S, ro⟩ H W' ⟨[], S', ro⟩ H' → Good K ca W' ⟨[], S', ro⟩ [] H' → RepH K W ⟨[], S, ro⟩ H W' ⟨[], S', ro⟩ [] H' v h → Q v H'
  | .exc c S' => ∀ W' H', Frm W ⟨[], S, ro⟩ H W' ⟨[], S', ro⟩ H' → Good K ca W' ⟨[], S', ro⟩ [] H' → E (.ref (ec c)) none H'
  | .stuck => False)
def bltNames : List Str := ["abs", "len", "int", "max", "min", "isinstance", "range", "sum", "sorted", "enumerate", "zip", "reversed", "set", "any", "all", "bool", "str", "list", "tuple", "dict"]
structure Okc (Γ : Gm) (nm : Nm) (ca : Ci) (ec : Nat → Addr) (k : Nat) (wx : WX) (calm : Bool) (sc : Scope) (X : Cx) : Prop where
  hN : X.N = nm.N
  nd : nm.N.Nodup
  hsc : X.env.scope = sc
  cl : calm = true → X.calm = true
  hu : X.A.units + 66 < cLine
  room : calm = true → Room (k + 1) X.A
  fns : calm = true → ∀ (f : Nat) (x : Str), nm.fn[f]? = some x → x ≠ Str.empty → ∃ a fd ps, X.mg x = some (.ref a) ∧ PySem.W.keepIn X.K (.ref a) = true ∧ FnOk X.prog X.w X.K X.mg X.base (L2.CX X.prog X.w) k a fd ps (spF X.K ca ec (Γ.call f) ps.length) ∧ Binds X.K fd ps [] ∧ ∀ ro ds S, Γ.call f ro ds S ≠ .stuck → ds.length = ps.length
  gl : ∀ (g : Nat) (x : Str), nm.gl[g]? = some x → ∃ u v, X.mg x = some u ∧ RelV v u ∧ ∀ W, Rep X.K W v (Γ.glob g)
  blt : ∀ x ∈ bltNames, X.mg x = none
  tk : Takes X wx
  ex : ∀ (c : Nat) (x : Str), nm.ex[c]? = some x → X.mg x = some (.ref (ec c))
  xn : calm = true → ca.xa = none
  mth : calm = true → ∀ (c : Nat) (m : Str) (g : Nat), Γ.mth c m = some g → c < Γ.ncl → ∃ a fd ps, Meth X.K (ca.cls c) m a ∧ FnOk X.prog X.w X.K X.mg X.base (L2.CX X.prog X.w) k a fd ps (spF X.K ca ec (Γ.call g) ps.length) ∧ Binds X.K fd ps [] ∧ ∀ ro ds S, Γ.call g ro ds S ≠ .stuck → ds.length = ps.length
  cls : ∀ c, c < Γ.ncl → Cls X.K (ca.cls c) ∧ ∀ f ∈ nm.flds, NoAttr X.K (ca.cls c) f
  mkr : calm = true → ∀ (c : Nat) (x : Str) (g : Nat), nm.cl[c]? = some (x, g) → X.mg x = some (.ref (ca.cls c)) ∧ ∃ a fd ps, Mk X.K (ca.cls c) a ∧ FnOk X.prog X.w X.K X.mg X.base (L2.CX X.prog X.w) k a fd ps (spF X.K ca ec (Γ.call g) ps.length) ∧ Binds X.K fd ps [] ∧ ∀ ro ds S, Γ.call g ro ds S ≠ .stuck → ds.length = ps.length
  xi : ∀ a d, ca.xa = some (a, d) → ∀ c y, nm.ex[c]? = some y → CallR X (.builtin "isinstance") (fun xs H Q => xs = [.ref a, .ref (ec c)] ∧ Q (.bl (Γ.sub d c)) H)
section
variable {Γ : Gm} {nm : Nm} {ca : Ci} {ec : Nat → Addr} {k : Nat} {wx : WX} {calm : Bool} {sc : Scope} {X : Cx}
theorem vis_of {x : Str} (h : visB sc x = true) : Vis sc x := by
  unfold visB at h
  split at h
  · exact .inl (by assumption)
  · exact .inr (.inl (by assumption))
  · exact .inr (.inr (by assumption))
  · cases h
theorem loc_of {x : Str} (h : locB sc x = true) : Loc sc x := by
  unfold locB at h
  split at h
  · exact .inl (by assumption)
  · exact .inr (by assumption)
  · cases h
theorem gl_of {x : Str} (C : Okc Γ nm ca ec k wx calm sc X) (h : glB sc x = true) : Gl X x := by
  unfold glB at h
  show X.env.scope.names.lookup x = some .globalImplicit
  rw [C.hsc]
  split at h
  · assumption
  · cases h
theorem dbg_of {x : Str} (h : notDbg x = true) : (x == ("__debug__" : Str)) = false ∧ (x == ("__classdict__" : Str)) = false ∧ x ≠ ("__name__" : Str) := by
  unfold notDbg at h
  simp only [Bool.and_eq_true, Bool.not_eq_true', decide_eq_false_iff_not] at h
  exact ⟨h.1.1.1, h.1.1.2, h.1.2⟩
theorem nempty_of {x : Str} (h : notDbg x = true) : x ≠ Str.empty := by
  unfold notDbg at h
  simp only [Bool.and_eq_true, Bool.not_eq_true', decide_eq_false_iff_not] at h
  exact h.2
theorem pe_name {i : Nat} {x : Str} {pos : Pos} (C : Okc Γ nm ca ec k wx calm sc X) (h : varB nm sc i x = true) : PE X (.Name x pos) (tVar i) := by
  unfold varB at h
  simp only [Bool.and_eq_true, decide_eq_true_eq] at h
  obtain ⟨h1, h2, h3⟩ := h
  obtain ⟨d1, d2, _⟩ := dbg_of h3
  exact pe_var (by rw [C.hN]; exact h1) (by rw [C.hsc]; exact vis_of h2) d1 d2
theorem getE {σ : L2.St} {i : Nat} {x : V} (h : (σ[i]?).join = some x) : σ[i]? = some (some x) := by
  cases e : σ[i]? with
  | none => rw [e] at h; cases h
  | some y => rw [e] at h; simpa using h
theorem ok_var {i : Nat} {x : Str} {pos : Pos} (C : Okc Γ nm ca ec k wx calm sc X) (h : varB nm sc i x = true) : PE X (.Name x pos) (tE X.K ca ec wx (evE Γ (.var i))) := (pe_name C h).imp fun σ H Q ⟨W, st, g, p⟩ => by
  have p : Post X.K ca ec wx W st σ H (match st.env[i]? with
    | some (.val d) => Res.ok (.val d) st
    | some (.own _) => .ok (.own i) st
    | some (.ownd _) => .ok (.own i) st
    | _ => .stuck) (PK_ X.K W st σ H Q) := p
  split at p
  · rename_i d e
    obtain ⟨x, e1, r⟩ := g.slot i _ e
    exact ⟨x, getE e1, p W H (.refl ..) g x r⟩
  · rename_i d e
    obtain ⟨e1, r⟩ := g.slot i _ e
    exact ⟨_, getE e1, p W H (.refl ..) g _ (getE e1)⟩
  · rename_i d e
    obtain ⟨e1, r⟩ := g.slot i _ e
    exact ⟨_, getE e1, p W H (.refl ..) g _ (getE e1)⟩
  · exact p.elim
theorem ok_frz {i : Nat} {x : Str} {pos : Pos} (C : Okc Γ nm ca ec k wx calm sc X) (h : varB nm sc i x = true) : PE X (.Name x pos) (tE X.K ca ec wx (evE Γ (.frz i))) := (pe_name C h).imp fun σ H Q ⟨W, st, g, p⟩ => by
  have p : Post X.K ca ec wx W st σ H (match st.env[i]? with
    | some (.own ds) => Res.ok (Hd.val (.lst ds)) (st.setE i (.val (.lst ds)))
    | some (.val (.lst ds)) => .ok (.val (.lst ds)) st
    | _ => .stuck) (PK_ X.K W st σ H Q) := p
  split at p
  · rename_i ds e
    obtain ⟨W', x, e1, f, g', r, _⟩ := frz_slot (.refl W st H) g e
    exact ⟨x, e1, p W' H f g' x r⟩
  · rename_i d e
    obtain ⟨x, e1, r⟩ := g.slot i _ e
    exact ⟨x, getE e1, p W H (.refl ..) g x r⟩
  · exact p.elim
theorem ok_cst {d : Dt} {c : Const} {j pos} (h : cstB d c = true) : PE X (.Constant c j pos) (tE X.K ca ec wx (evE Γ (.cst d))) := by
  unfold cstB at h
  split at h
  · cases of_decide_eq_true h
    exact pe_int.imp fun σ H Q ⟨W, st, g, p⟩ => p W H (.refl ..) g _ (.int _)
  · cases of_decide_eq_true h
    exact pe_bl.imp fun σ H Q ⟨W, st, g, p⟩ => p W H (.refl ..) g _ (.bl _)
  · cases of_decide_eq_true h
    exact pe_str.imp fun σ H Q ⟨W, st, g, p⟩ => p W H (.refl ..) g _ (.str _)
  · exact pe_non.imp fun σ H Q ⟨W, st, g, p⟩ => p W H (.refl ..) g _ .non
  · cases h
theorem ok_glob {g : Nat} {x : Str} {pos : Pos} (C : Okc Γ nm ca ec k wx calm sc X) (h1 : nm.gl[g]? = some x) (h2 : glB sc x = true) (h3 : notDbg x = true) : PE X (.Name x pos) (tE X.K ca ec wx (evE Γ (.glob g))) := by
  obtain ⟨u, v, e, r, rp⟩ := C.gl g x h1
  exact (pe_glob (gl_of C h2) e r (dbg_of h3).1).imp fun σ H Q ⟨W, st, g, p⟩ => p W H (.refl ..) g _ (rp W)
theorem ok_bin {o : BOp} {a b : Sta → Res Hd} {l r : Expr} {pos : Pos} (ha : PE X l (tE X.K ca ec wx a)) (hb : PE X r (tE X.K ca ec wx b)) :
    PE X (.BinOp l (opO o) r pos) (tE X.K ca ec wx fun st => (a st).bind fun x st1 => (behind x b st1).bind fun y st2 => ofO st2 (binD o st2 x y)) :=
  (pe_op (opR_bin o) ha hb).imp fun _ _ _ => op2_of
theorem ok_cmp {o : COp} {a b : Sta → Res Hd} {l r : Expr} {pos : Pos} (hu : X.A.units + 66 < cLine) (ha : PE X l (tE X.K ca ec wx a)) (hb : PE X r (tE X.K ca ec wx b)) (hm : behindInMarks (cmpO o) r = false) :
    PE X (.Compare l [cmpO o] [r] pos) (tE X.K ca ec wx fun st => (a st).bind fun x st1 => (behind x b st1).bind fun y st2 => ofO st2 (cmpD o st2 x y)) :=
  (pe_cmpR (opR_cmp hu o) ha hb hm).imp fun _ _ _ => op2_of
/-- a test of an expression whose value is True or False -/
theorem tTest_of {m : Sta → Res Hd} {t : TE} (h : ∀ σ H Q, tE X.K ca ec wx m σ H Q → t σ H Q) (σ : L2.St) (H : Hp) (Q : Bool → Hp → Prop) (p : tT X.K ca ec wx (fun st => (m st).truth) σ H Q) : tTest t σ H Q := by
  obtain ⟨W, st, g, p⟩ := p
  refine h σ H _ ⟨W, st, g, (truth_run p).mono fun W' st' H' h f g' ⟨b, e, q⟩ v r => ?_⟩
  subst e
  cases r
  exact ⟨b, rfl, q⟩
theorem ok_cmpT {o : COp} {a b : Sta → Res Hd} {l r : Expr} {pos : Pos} (hu : X.A.units + 66 < cLine) (ha : PE X l (tE X.K ca ec wx a)) (hb : PE X r (tE X.K ca ec wx b)) (hm : behindInMarks (cmpO o) r = false) :
    PT X (.Compare l [cmpO o] [r] pos) (tT X.K ca ec wx fun st => ((a st).bind fun x st1 => (behind x b st1).bind fun y st2 => ofO st2 (cmpD o st2 x y)).truth) :=
  (pt_cmpR (opR_cmp hu o) ha hb hm).imp fun σ H Q p => tTest_of (fun _ _ _ => op2_of) σ H Q p
theorem chain_of {o p : COp} {a b c : Sta → Res Hd} {σ : L2.St} {H : Hp} {Q : VK} (h : tE X.K ca ec wx (fun st => (a st).bind fun x st1 => (behind x b st1).bind fun y st2 => if y.isFld then .stuck else (ofO st2 (cmpD o st2 x y)).truth.bind fun k st3 =>
      if k then (behind y c st3).bind fun z st4 => ofO st4 (cmpD p st4 y z) else .ok (.val (.bl false)) st3) σ H Q) :
    tChain (rD X.K ca (cmpD o)) (rD X.K ca (cmpD p)) (tE X.K ca ec wx a) (tE X.K ca ec wx b) (tE X.K ca ec wx c) σ H Q := by
  obtain ⟨W, st, g, p0⟩ := h
  refine ⟨W, st, g, p0.bind.mono fun W1 st1 H1 x f1 g1 p1 v r1 => ?_⟩
  obtain ⟨st1', g1', hb, p2⟩ := behind_run g1 r1 p1.bind
  refine ⟨W1, st1', g1', p2.mono fun W2 st2' H2 y f2 g2' ⟨b', g2, f2', r1', p3⟩ u r2 => ?_⟩
  have r2' := r2.setro (b := b') (b0 := st1'.ro)
  by_cases hf : y.isFld = true
  · rw [if_pos hf] at p3; exact p3.elim
  rw [if_neg hf] at p3
  -- the first comparison
  have p4 := truth_run p3.bind
  cases e : cmpD o (st2'.setro b') x y with
  | none => rw [e] at p4; exact p4.elim
  | some h1 =>
    rw [e] at p4
    refine ⟨W2, st2'.setro b', σ, _, _, _, _, _, _, x, y, h1, g2, r1', r2', e, fun W3 H3 z f3 g3 r3 => ?_⟩
    obtain ⟨kk, ek, p5⟩ := p4 W3 H3 f3 g3
    subst ek
    cases r3
    refine ⟨kk, rfl, ?_⟩
    cases kk with
    | false =>
      refine iteF ?_
      exact p5 W3 H3 (.refl ..) g3 _ (.bl _)
    | true =>
      refine iteT ?_
      have p5 := p5
      rw [if_pos rfl] at p5
      obtain ⟨st3', g3', hb3, p6⟩ := behind_run g3 (r2'.stay f3 fun z => absurd z hf) p5.bind
      refine ⟨W3, st3', g3', p6.mono fun W4 st4' H4 z f4 g4' ⟨b4, g4, f4', r5, p7⟩ w r4 => ?_⟩
      exact rD_of (((f1.trans f2').trans f3).trans f4') g4 r5 (r4.setro (b := b4) (b0 := st3'.ro)) p7
theorem ok_chain {o p : COp} {a b c : Sta → Res Hd} {l m r : Expr} {pos : Pos} (hu : X.A.units + 66 < cLine) (ha : PE X l (tE X.K ca ec wx a)) (hb : PE X m (tE X.K ca ec wx b)) (hc : PE X r (tE X.K ca ec wx c)) (hm : behindInMarks (cmpO p) r = false) :
    PE X (.Compare l [cmpO o, cmpO p] [m, r] pos) (tE X.K ca ec wx fun st => (a st).bind fun x st1 => (behind x b st1).bind fun y st2 => if y.isFld then .stuck else (ofO st2 (cmpD o st2 x y)).truth.bind fun k st3 =>
      if k then (behind y c st3).bind fun z st4 => ofO st4 (cmpD p st4 y z) else .ok (.val (.bl false)) st3) :=
  (pe_chain (opR_cmp hu o) (opR_cmp hu p) ha hb hc hm).imp fun _ _ _ => chain_of
theorem ok_chainT {o p : COp} {a b c : Sta → Res Hd} {l m r : Expr} {pos : Pos} (hu : X.A.units + 66 < cLine) (ha : PE X l (tE X.K ca ec wx a)) (hb : PE X m (tE X.K ca ec wx b)) (hc : PE X r (tE X.K ca ec wx c)) (hm : behindInMarks (cmpO p) r = false) :
    PT X (.Compare l [cmpO o, cmpO p] [m, r] pos) (tT X.K ca ec wx fun st => ((a st).bind fun x st1 => (behind x b st1).bind fun y st2 => if y.isFld then .stuck else (ofO st2 (cmpD o st2 x y)).truth.bind fun k st3 =>
      if k then (behind y c st3).bind fun z st4 => ofO st4 (cmpD p st4 y z) else .ok (.val (.bl false)) st3).truth) :=
  (pt_chain (opR_cmp hu o) (opR_cmp hu p) ha hb hc hm).imp fun σ H Q p => tTest_of (fun _ _ _ => chain_of) σ H Q p
theorem ok_ix {a b : Sta → Res Hd} {l r : Expr} {pos : Pos} (ha : PE X l (tE X.K ca ec wx a)) (hb : PE X r (tE X.K ca ec wx b)) (hs : PlainIx r) :
    PE X (.Subscript l r pos) (tE X.K ca ec wx fun st => (a st).bind fun x st1 => (behind x b st1).bind fun y st2 => ofO st2 (ixD st2 x y)) :=
  (pe_ix ixR_ix ha hb hs).imp fun _ _ _ => op2_of
theorem ok_un {o : UOp} {a : Sta → Res Hd} {l : Expr} {pos : Pos} (ha : PE X l (tE X.K ca ec wx a)) :
    PE X (.UnaryOp (unO o) l pos) (tE X.K ca ec wx fun st => (a st).bind fun x st1 => ofO st1 (unD o x)) :=
  (pe_un (unR_un (ca := ca) o) ha).imp fun σ H Q ⟨W, st, g, p⟩ => ⟨W, st, g, p.bind.mono fun W1 st1 H1 x f1 g1 p1 v r1 => rD1_of (op := fun _ => unD o) f1 g1 r1 p1⟩
theorem ok_not {a : Sta → Res Hd} {l : Expr} {pos : Pos} (ha : PE X l (tE X.K ca ec wx a)) :
    PE X (.UnaryOp .Not l pos) (tE X.K ca ec wx fun st => (a st).truth.bind fun b st1 => .ok (.val (.bl (!b))) st1) :=
  (pe_not ha).imp fun σ H Q ⟨W, st, g, p⟩ => ⟨W, st, g, (truth_run p.bind).mono fun W1 st1 H1 x f1 g1 ⟨b, e, p1⟩ v r1 => by
    subst e
    cases r1
    exact ⟨b, rfl, p1 W1 H1 (.refl ..) g1 _ (.bl _)⟩⟩
theorem ok_notT {a : Sta → Res Hd} {l : Expr} {pos : Pos} (ha : PT X l (tT X.K ca ec wx fun st => (a st).truth)) :
    PT X (.UnaryOp .Not l pos) (tT X.K ca ec wx fun st => ((a st).truth.bind fun b st1 => Res.ok (Hd.val (.bl (!b))) st1).truth) :=
  (pt_not ha).imp fun σ H Q ⟨W, st, g, p⟩ => ⟨W, st, g, ((truth_run p).bind).mono fun W1 st1 H1 b f1 g1 p1 => by
    obtain ⟨b', e, q⟩ := p1 W1 H1 (.refl ..) g1
    cases e
    exact q⟩
theorem ok_and {a b : Sta → Res Hd} {l r : Expr} {rs : List Expr} {pos : Pos} (ha : PE X l (tE X.K ca ec wx a)) (hb : PE X (.BoolOp .And (r :: rs) pos) (tE X.K ca ec wx b)) :
    PE X (.BoolOp .And (l :: r :: rs) pos) (tE X.K ca ec wx fun st => (a st).truth.bind fun k st1 => if k then b st1 else .ok (.val (.bl false)) st1) :=
  (pe_and ha hb).imp fun σ H Q ⟨W, st, g, p⟩ => ⟨W, st, g, (truth_run p.bind).mono fun W1 st1 H1 x f1 g1 ⟨k, e, p1⟩ v r1 => by
    subst e
    cases r1
    refine ⟨k, rfl, ?_⟩
    cases k with
    | true => exact iteT ⟨W1, st1, g1, Post.mono p1 fun W2 st2 H2 h f2 g2 p2 u r2 => p2 u (r2.early f1)⟩
    | false => exact iteF (p1 W1 H1 (.refl ..) g1 _ (.bl _))⟩
theorem ok_or {a b : Sta → Res Hd} {l r : Expr} {rs : List Expr} {pos : Pos} (ha : PE X l (tE X.K ca ec wx a)) (hb : PE X (.BoolOp .Or (r :: rs) pos) (tE X.K ca ec wx b)) :
    PE X (.BoolOp .Or (l :: r :: rs) pos) (tE X.K ca ec wx fun st => (a st).truth.bind fun k st1 => if k then .ok (.val (.bl true)) st1 else b st1) :=
  (pe_or ha hb).imp fun σ H Q ⟨W, st, g, p⟩ => ⟨W, st, g, (truth_run p.bind).mono fun W1 st1 H1 x f1 g1 ⟨k, e, p1⟩ v r1 => by
    subst e
    cases r1
    refine ⟨k, rfl, ?_⟩
    cases k with
    | true => exact iteT (p1 W1 H1 (.refl ..) g1 _ (.bl _))
    | false => exact iteF ⟨W1, st1, g1, Post.mono p1 fun W2 st2 H2 h f2 g2 p2 u r2 => p2 u (r2.early f1)⟩⟩
theorem ok_andT {a b : Sta → Res Hd} {l r : Expr} {rs : List Expr} {pos : Pos} (ha : PT X l (tT X.K ca ec wx fun st => (a st).truth)) (hb : PW X (.BoolOp .And (r :: rs) pos) (tT X.K ca ec wx fun st => (b st).truth)) :
    PW X (.BoolOp .And (l :: r :: rs) pos) (tT X.K ca ec wx fun st => ((a st).truth.bind fun k st1 => if k then b st1 else .ok (.val (.bl false)) st1).truth) :=
  ⟨fun wh pins s σ H Q I h => (pw_and ha hb).run wh pins s σ H Q I (by
    obtain ⟨W, st, g, p⟩ := h
    have p : Post X.K ca ec wx W st σ H ((a st).truth.bind fun k st1 => (if k then b st1 else .ok (.val (.bl false)) st1).truth) (fun _ _ H' c => Q c H') := by
      have e : ((a st).truth.bind fun k st1 => if k then b st1 else .ok (.val (.bl false)) st1).truth = ((a st).truth.bind fun k st1 => (if k then b st1 else .ok (.val (.bl false)) st1).truth) := by
        cases (a st).truth <;> rfl
      rw [← e]; exact p
    refine ⟨W, st, g, p.bind.mono fun W1 st1 H1 k f1 g1 p1 => ?_⟩
    cases k with
    | true => exact iteT ⟨W1, st1, g1, p1⟩
    | false => exact iteF (p1 W1 H1 (.refl ..) g1))⟩
theorem ok_orT {a b : Sta → Res Hd} {l r : Expr} {rs : List Expr} {pos : Pos} (ha : PT X l (tT X.K ca ec wx fun st => (a st).truth)) (hb : PW X (.BoolOp .Or (r :: rs) pos) (tT X.K ca ec wx fun st => (b st).truth)) :
    PW X (.BoolOp .Or (l :: r :: rs) pos) (tT X.K ca ec wx fun st => ((a st).truth.bind fun k st1 => if k then .ok (.val (.bl true)) st1 else b st1).truth) :=
  ⟨fun wh pins s σ H Q I h => (pw_or ha hb).run wh pins s σ H Q I (by
    obtain ⟨W, st, g, p⟩ := h
    have p : Post X.K ca ec wx W st σ H ((a st).truth.bind fun k st1 => (if k then .ok (.val (.bl true)) st1 else b st1).truth) (fun _ _ H' c => Q c H') := by
      have e : ((a st).truth.bind fun k st1 => if k then .ok (.val (.bl true)) st1 else b st1).truth = ((a st).truth.bind fun k st1 => (if k then .ok (.val (.bl true)) st1 else b st1).truth) := by
        cases (a st).truth <;> rfl
      rw [← e]; exact p
    refine ⟨W, st, g, p.bind.mono fun W1 st1 H1 k f1 g1 p1 => ?_⟩
    cases k with
    | true => exact iteT (p1 W1 H1 (.refl ..) g1)
    | false => exact iteF ⟨W1, st1, g1, p1⟩)⟩
theorem ok_ife {t a b : Sta → Res Hd} {c l r : Expr} {pos : Pos} (ht : PT X c (tT X.K ca ec wx fun st => (t st).truth)) (ha : PE X l (tE X.K ca ec wx a)) (hb : PE X r (tE X.K ca ec wx b)) :
    PE X (.IfExp c l r pos) (tE X.K ca ec wx fun st => (t st).truth.bind fun k st1 => if k then a st1 else b st1) :=
  (pe_ifExp ht ha hb).imp fun σ H Q ⟨W, st, g, p⟩ => ⟨W, st, g, p.bind.mono fun W1 st1 H1 k f1 g1 p1 => by
    cases k with
    | true => exact iteT ⟨W1, st1, g1, Post.mono p1 fun W2 st2 H2 h f2 g2 p2 u r2 => p2 u (r2.early f1)⟩
    | false => exact iteF ⟨W1, st1, g1, Post.mono p1 fun W2 st2 H2 h f2 g2 p2 u r2 => p2 u (r2.early f1)⟩⟩
end
end EV
namespace EV
open PySem PySem.Spec PyProof.Rows L2
theorem star_of {e : Expr} {es : List Expr} {env : Env} (h : starB e = true) : starEach (e :: es) env = (false, eval e env) :: starEach es env := by
  cases e <;> first | rfl | cases h
theorem stars_none : ∀ {es : List Expr} {env : Env} {pos : Pos}, es.all starB = true → (backTo pos (starEach es env)).any (·.1) = false
  | [], _, _, _ => rfl
  | e :: es, env, pos, h => by
    rw [List.all_cons, Bool.and_eq_true] at h
    rw [star_of h.1]
    show (false || (backTo pos (starEach es env)).any (·.1)) = false
    rw [stars_none h.2]
    rfl
theorem plain_of {e : Expr} (h : ixB e = true) : PlainIx e := by
  cases e <;> first | exact fun _ _ => rfl | cases h
theorem fold_of {e : Expr} {env : Env} (h : setB e = true) : ∀ x, foldedSetIterable e env x = pure x := by
  cases e <;> first | exact fun _ => rfl | cases h
theorem attr_of {e : Expr} {m : Str} {env : Env} (h : attrB e = true) : attributeBase e m env (eval e env) = eval e env := by
  cases e with
  | Call f args kws pos =>
    cases f with
    | Name x p =>
      cases args with
      | nil =>
        cases kws with
        | nil => cases h
        | cons k ks => rfl
      | cons a as => rfl
    | _ => rfl
  | _ => rfl
section
variable {K : PySem.W.Frag} {ca : Ci} {ec : Nat → Addr} {wx : WX} {X : Cx} {Γ : Gm} {nm : Nm} {k : Nat} {calm : Bool} {sc : Scope}
theorem ok_nil : PA X [] (tA X.K ca ec wx fun st => .ok [] st) := pa_nil.imp fun σ H Q ⟨W, st, g, p⟩ => p W H (.refl ..) g [] .nil
theorem ok_cons {m : Sta → Res Hd} {ms : Sta → Res (List Dt)} {e : Expr} {es : List Expr} (hs : starB e = true) (ha : PE X e (tE X.K ca ec wx m)) (hr : PA X es (tA X.K ca ec wx ms)) :
    PA X (e :: es) (tA X.K ca ec wx fun st => (m st).dt.bind fun d st1 => (ms st1).bind fun ds st2 => .ok (d :: ds) st2) :=
  (pa_cons ha hr (star_of hs)).imp fun σ H Q ⟨W, st, g, p⟩ => ⟨W, st, g, (dt_run p.bind).mono fun W' st' H' h f g' p1 v r => by
    obtain ⟨d, W2, f2, g2, rd, _, p2⟩ := p1 v r
    exact ⟨W2, st', g2, p2.bind.mono fun W3 st3 H3 ds f3 g3 p3 vs rs => p3 W3 H3 (.refl ..) g3 (v :: vs) (.cons (rd.ext f3.ext) rs)⟩⟩
theorem ok_tup {ms : Sta → Res (List Dt)} {es : List Expr} {x pos} (h : PA X es (tA X.K ca ec wx ms)) :
    PE X (.Tuple es x pos) (tE X.K ca ec wx fun st => (ms st).bind fun ds st1 => if ds.length ≤ sizeLine then .ok (.val (.tup ds)) st1 else .stuck) :=
  (pe_tup h).imp fun σ H Q ⟨W, st, g, p⟩ => ⟨W, st, g, p.bind.mono fun W1 st1 H1 ds f1 g1 p1 vs rs => by
    by_cases hl : ds.length ≤ sizeLine
    · rw [if_pos hl] at p1
      refine ⟨by rw [rs.length]; exact hl, fun q hq => ?_⟩
      obtain ⟨W2, f2, g2, r2, _⟩ := new_tup (.refl W1 st1 H1) g1 rs hq
      exact p1 W2 _ f2 g2 _ r2
    · rw [if_neg hl] at p1; exact p1.elim⟩
theorem ok_lst {ms : Sta → Res (List Dt)} {es : List Expr} {pos} (h : PA X es (tA X.K ca ec wx ms)) :
    PE X (.List es pos) (tE X.K ca ec wx fun st => (ms st).bind fun ds st1 => if ds.length ≤ sizeLine then .ok (.new ds) st1 else .stuck) :=
  (pe_lst h).imp fun σ H Q ⟨W, st, g, p⟩ => ⟨W, st, g, p.bind.mono fun W1 st1 H1 ds f1 g1 p1 vs rs => by
    by_cases hl : ds.length ≤ sizeLine
    · rw [if_pos hl] at p1
      refine ⟨by rw [rs.length]; exact hl, fun q hq => ?_⟩
      obtain ⟨f2, g2, r2⟩ := new_lst (.refl W1 st1 H1) g1 rs hq
      exact p1 _ _ f2 g2 _ (r2.early f1)
    · rw [if_neg hl] at p1; exact p1.elim⟩
/-- one argument, two arguments -/
theorem arg1 {e : Expr} {te : TE} (hs : starB e = true) (h : PE X e te) : PA X [e] (tCons te tNil) := pa_cons h pa_nil (star_of hs)
theorem arg2 {e f : Expr} {te tf : TE} (hs : starB e = true) (hs' : starB f = true) (h : PE X e te) (h' : PE X f tf) : PA X [e, f] (tCons te (tCons tf tNil)) := pa_cons h (arg1 hs' h') (star_of hs)
theorem ok_blt {b : Blt} {m : Sta → Res Hd} {l : Expr} {p pos : Pos} (C : Okc Γ nm ca ec k wx calm sc X) (hc : bltC b = false ∨ calm = true) (hx : glB sc (bltT b).1 = true) (hs : starB l = true) (h : PE X l (tE X.K ca ec wx m)) :
    PE X (.Call (.Name (bltT b).1 p) [l] [] pos) (tE X.K ca ec wx fun st => (m st).bind fun x st1 => ofO st1 (bltD b st1 x)) := by
  have fin : ∀ {σ H Q}, tE X.K ca ec wx (fun st => (m st).bind fun x st1 => ofO st1 (bltD b st1 x)) σ H Q → tCB (rB1 X.K ca (bltD b)) (tCons (tE X.K ca ec wx m) tNil) σ H Q := fun {σ H Q} ⟨W, st, g, p⟩ =>
    ⟨W, st, g, p.bind.mono fun W1 st1 H1 x f1 g1 p1 v r1 => ⟨v, rfl, rD1_of f1 g1 r1 p1⟩⟩
  cases b with
  | abs => exact (pe_callB call_abs_ (gl_of C hx) (C.blt _ (by decide +kernel)) (by decide +kernel) (arg1 hs h) (by decide +kernel) (by decide +kernel) (star_of hs) (stars_none (es := []) rfl)).imp fun _ _ _ => fin
  | len => exact (pe_callB call_len_ (gl_of C hx) (C.blt _ (by decide +kernel)) (by decide +kernel) (arg1 hs h) (by decide +kernel) (by decide +kernel) (star_of hs) (stars_none (es := []) rfl)).imp fun _ _ _ => fin
  | int => exact (pe_callTy call_int_ (gl_of C hx) (C.blt _ (by decide +kernel)) (by decide +kernel) (arg1 hs h) (by decide +kernel) (by decide +kernel) (star_of hs) (stars_none (es := []) rfl)).imp fun _ _ _ => fin
  | list => exact (pe_callTy call_list_ (gl_of C hx) (C.blt _ (by decide +kernel)) (by decide +kernel) (arg1 hs h) (by decide +kernel) (by decide +kernel) (star_of hs) (stars_none (es := []) rfl)).imp fun _ _ _ => fin
  | tuple => exact (pe_callTy call_tuple_ (gl_of C hx) (C.blt _ (by decide +kernel)) (by decide +kernel) (arg1 hs h) (by decide +kernel) (by decide +kernel) (star_of hs) (stars_none (es := []) rfl)).imp fun _ _ _ => fin
  | str => exact (pe_callTy call_str_ (gl_of C hx) (C.blt _ (by decide +kernel)) (by decide +kernel) (arg1 hs h) (by decide +kernel) (by decide +kernel) (star_of hs) (stars_none (es := []) rfl)).imp fun _ _ _ => fin
  | sorted => exact (pe_callB call_sorted_ (gl_of C hx) (C.blt _ (by decide +kernel)) (by decide +kernel) (arg1 hs h) (by decide +kernel) (by decide +kernel) (star_of hs) (stars_none (es := []) rfl)).imp fun _ _ _ => fin
  | sum => exact (pe_callB (call_sum_ (C.cl (hc.resolve_left (by decide)))) (gl_of C hx) (C.blt _ (by decide +kernel)) (by decide +kernel) (arg1 hs h) (by decide +kernel) (by decide +kernel) (star_of hs) (stars_none (es := []) rfl)).imp fun _ _ _ => fin
  | maxl => exact (pe_callB (call_maxl_ (C.cl (hc.resolve_left (by decide)))) (gl_of C hx) (C.blt _ (by decide +kernel)) (by decide +kernel) (arg1 hs h) (by decide +kernel) (by decide +kernel) (star_of hs) (stars_none (es := []) rfl)).imp fun _ _ _ => fin
  | minl => exact (pe_callB (call_minl_ (C.cl (hc.resolve_left (by decide)))) (gl_of C hx) (C.blt _ (by decide +kernel)) (by decide +kernel) (arg1 hs h) (by decide +kernel) (by decide +kernel) (star_of hs) (stars_none (es := []) rfl)).imp fun _ _ _ => fin
theorem rng_reps {W : Wd} (i : Int) : ∀ ks : List Nat, Reps K W (ks.map fun (k : Nat) => V.int (i + k)) (ks.map fun (k : Nat) => Dt.int (i + k))
  | [] => .nil
  | k :: ks => .cons (.int _) (rng_reps i ks)
theorem lrg_of {W0 W1 : Wd} {st0 st1 : Sta} {σ : L2.St} {H0 H1 : Hp} {Q : VK} {i j : Int} (f : Frm W0 st0 H0 W1 st1 H1) (g : Good K ca W1 st1 σ H1) (p : Post K ca ec wx W1 st1 σ H1 (ofO st1 (lrgD i j)) (PK_ K W0 st0 σ H0 Q)) :
    RgOk i j ∧ ∀ q, H1 q = none → Q (.ref q) (upd H1 q (.lst (rgV i j))) := by
  unfold lrgD at p
  split at p
  · rename_i hm
    have hs := hm.1
    unfold smallR at hs
    simp only [Bool.and_eq_true, decide_eq_true_eq] at hs
    refine ⟨⟨hs.1, hs.2.1, hs.2.2.1, hs.2.2.2, hm.2⟩, fun q hq => ?_⟩
    obtain ⟨f2, g2, r2⟩ := new_lst (.refl W1 st1 H1) g (rng_reps (K := K) (W := W1) i (List.range (j - i).toNat)) hq
    exact p _ _ f2 g2 _ (r2.early f)
  · exact p.elim
theorem ok_sset {m : Sta → Res Hd} {l : Expr} {p p2 pos pos2 : Pos} (C : Okc Γ nm ca ec k wx calm sc X) (hc : calm = true) (hx : glB sc "sorted" = true) (hy : glB sc "set" = true) (hs : starB l = true) (h : PE X l (tE X.K ca ec wx m)) :
    PE X (.Call (.Name "sorted" p) [.Call (.Name "set" p2) [l] [] pos2] [] pos) (tE X.K ca ec wx fun st => (m st).bind fun x st1 => ofO st1 (ssetD st1 x)) := by
  have h1 : PE X (.Call (.Name "set" p2) [l] [] pos2) (tCB (rSetIL X.K X.w) (tCons (tE X.K ca ec wx m) tNil)) := pe_callTy (cr_setL (C.cl hc)) (gl_of C hy) (C.blt _ (by decide +kernel)) (by decide +kernel) (arg1 hs h) (by decide +kernel) (by decide +kernel) (star_of hs) (stars_none (es := []) rfl)
  refine (pe_callB (cr_sortedSet (C.cl hc)) (gl_of C hx) (C.blt _ (by decide +kernel)) (by decide +kernel) (arg1 rfl h1) (by decide +kernel) (by decide +kernel)).imp fun σ H Q ⟨W, st, g, p⟩ => ⟨W, st, g, p.bind.mono fun W1 st1 H1 x f1 g1 p1 v r1 => ?_⟩
  unfold ssetD at p1
  cases q1 : intsH st1 x with
  | none => rw [q1] at p1; exact p1.elim
  | some ns =>
    rw [q1] at p1
    by_cases h64 : ns.length < 64
    · rw [Option.bind_some, if_pos h64] at p1
      obtain ⟨a, rfl, hq⟩ := intsH_rel g1 r1 q1
      refine ⟨a, ns, rfl, hq, h64, fun c p hc hp => ⟨p, _, c, rfl, upd_same, by omega, fun ms p2 asc hm _ hn => ?_⟩⟩
      have e : ms = sortU ns := asc_eq asc (sortU_asc ns) fun j => by
        rw [hm j, decide_eq_true_eq, sortU_mem]
      subst e
      have g2 := g1.alloc (ob := SetO X.w p (fun j => decide (j ∈ ns)) c) hp
      have f2 := (Frm.refl W1 st1 H1).alloc (ob := SetO X.w p (fun j => decide (j ∈ ns)) c) hp g1
      obtain ⟨f3, g3, r3⟩ := new_lst f2 g2 (Reps.ints (K := X.K) (W := W1) (sortU ns)) hn
      exact p1 _ _ f3 g3 _ (r3.early f1)
    · rw [Option.bind_some, if_neg h64] at p1
      exact p1.elim
theorem ok_lrg1 {m : Sta → Res Hd} {l : Expr} {p p2 pos pos2 : Pos} (C : Okc Γ nm ca ec k wx calm sc X) (hc : calm = true) (hx : glB sc "list" = true) (hy : glB sc "range" = true) (hs : starB l = true) (h : PE X l (tE X.K ca ec wx m)) :
    PE X (.Call (.Name "list" p) [.Call (.Name "range" p2) [l] [] pos2] [] pos) (tE X.K ca ec wx fun st => (m st).bind fun x st1 => (match x with
    | .val (.int j) => ofO st1 (lrgD 0 j)
    | _ => .stuck)) :=
  (pe_listRg (C.cl hc) (gl_of C hx) (C.blt _ (by decide +kernel)) (prg_1 (gl_of C hy) (C.blt _ (by decide +kernel)) h (star_of hs)) rfl).imp fun σ H Q ⟨W, st, g, p⟩ => ⟨W, st, g, p.bind.mono fun W1 st1 H1 x f1 g1 p1 v r1 => by
    split at p1
    · cases r1
      exact ⟨_, rfl, lrg_of f1 g1 p1⟩
    · exact p1.elim⟩
theorem ok_lrg2 {a b : Sta → Res Hd} {l r : Expr} {p p2 pos pos2 : Pos} (C : Okc Γ nm ca ec k wx calm sc X) (hc : calm = true) (hx : glB sc "list" = true) (hy : glB sc "range" = true) (hs : starB l = true) (hs' : starB r = true) (h : PE X l (tE X.K ca ec wx a)) (h' : PE X r (tE X.K ca ec wx b)) :
    PE X (.Call (.Name "list" p) [.Call (.Name "range" p2) [l, r] [] pos2] [] pos) (tE X.K ca ec wx fun st => (a st).bind fun x st1 => (b st1).bind fun y st2 => (match x, y with
    | .val (.int i), .val (.int j) => ofO st2 (lrgD i j)
    | _, _ => .stuck)) :=
  (pe_listRg (C.cl hc) (gl_of C hx) (C.blt _ (by decide +kernel)) (prg_2 (gl_of C hy) (C.blt _ (by decide +kernel)) h h' (star_of hs) (star_of hs') (stars_none (es := [r]) (by simp [hs']))) rfl).imp fun σ H Q ⟨W, st, g, p⟩ => ⟨W, st, g, p.bind.mono fun W1 st1 H1 x f1 g1 p1 v r1 => by
    refine ⟨W1, st1, g1, p1.bind.mono fun W2 st2 H2 y f2 g2 p2 u r2 => ?_⟩
    split at p2
    · cases r1; cases r2
      exact ⟨_, _, rfl, rfl, lrg_of (f1.trans f2) g2 p2⟩
    · exact p2.elim⟩
theorem find_some {α : Type} {p : α → Bool} {xs : List α} {j : Nat} (h : xs.findIdx? p = some j) : ∃ z, xs[j]? = some z ∧ p z = true ∧ ∀ (m : Nat) (z' : α), m < j → xs[m]? = some z' → p z' = false := by
  obtain ⟨h1, h2, h3⟩ := List.findIdx?_eq_some_iff_getElem.mp h
  refine ⟨xs[j], List.getElem?_eq_getElem h1, h2, fun m z' hm e => ?_⟩
  have hl : m < xs.length := Nat.lt_trans hm h1
  rw [List.getElem?_eq_getElem hl] at e
  cases e
  simpa using h3 m hm
theorem ok_idx {ma mb : Sta → Res Hd} {l r : Expr} {ap pos : Pos} (hu : X.A.units + 66 < cLine) (hl : (ap.endLine == pos.line) = true) (ha : attrB l = true) (hs : starB r = true) (h : PE X l (tE X.K ca ec wx ma)) (h' : PE X r (tE X.K ca ec wx mb)) :
    PE X (.Call (.Attribute l "index" ap) [r] [] pos) (tE X.K ca ec wx fun st => (ma st).bind fun x st1 => if isLst st1 x then (behind x mb st1).bind fun y st2 => ofO st2 (idxD st2 x y) else .stuck) := by
  have mt : MtR X "list.index" (fun x xs H Q => rIndex X.K x xs H Q ∨ rIndexD X.K x xs H Q) := fun pins s σ H x xs v us Q I rx rs h => h.elim (mt_index pins s σ H x xs v us Q I rx rs) (mt_indexD (by omega) pins s σ H x xs v us Q I rx rs)
  refine (pe_bm PySem.F.plainAttrs_list PySem.F.slot_list_index PySem.F.type_list_index mt h (arg1 hs h') (attr_of ha) ?_ hl (star_of hs) (stars_none (es := []) rfl)).imp fun σ H Q ⟨W, st, g, p⟩ => ?_
  · rw [star_of hs]; rfl
  refine ⟨W, st, g, p.bind.mono fun W1 st1 H1 x f1 g1 p1 v r1 => ?_⟩
  by_cases hx : isLst st1 x = true
  · rw [if_pos hx] at p1
    have hq : ∃ ds, seqOf st1 x = some (true, ds) := by
      unfold isLst at hx
      split at hx
      · rename_i ds q; exact ⟨ds, q⟩
      · cases hx
    obtain ⟨ds0, hq⟩ := hq
    obtain ⟨a0, vs0, rfl, _, h0, _⟩ := seq_rel g1 r1 hq
    obtain ⟨st1', g1', hb, p2⟩ := behind_run g1 r1 p1.bind
    refine ⟨.inl ⟨rfl, _, h0 rfl⟩, W1, st1', g1', p2.mono fun W2 st2' H2 y f2 g2' hh u r2 => ?_⟩
    obtain ⟨b', g2, f2', r1', p3⟩ := hh
    have r2' := r2.setro (b := b') (b0 := st1'.ro)
    show rIndex X.K (.ref a0) [u] H2 Q ∨ rIndexD X.K (.ref a0) [u] H2 Q
    unfold idxD at p3
    split at p3
    · rename_i j q
      left
      unfold idxF at q
      split at q
      · rename_i d ds q2
        split at q
        · rename_i w ws q3 q4
          obtain ⟨a, vs, e, t, h1, _⟩ := seq_rel g2 r1' q2
          obtain ⟨rfl, k1⟩ := flat_rel r2' q3
          obtain ⟨rfl, k2⟩ := flats_rel t q4
          obtain ⟨z, k3, k4, k5⟩ := find_some q
          exact ⟨a, vs, u, j, z, e, rfl, h1 rfl, k1, k2, k3, k4, k5, p3 W2 H2 (.refl ..) g2 _ (.int _)⟩
        · cases q
      · cases q
    · cases q : idxP (st2'.setro b') x y with
      | none => rw [q] at p3; exact p3.elim
      | some j =>
        rw [q] at p3
        right
        unfold idxP at q
        split at q
        · rename_i ds d q1 q2
          split at q
          · rename_i hs
            rw [Bool.and_eq_true] at hs
            obtain ⟨z, k3, k4, k5⟩ := find_some q
            exact ⟨a0, u, d, ds, j, z, rfl, rfl, pyOf_rel g2 r1' q1, pyOf_rel g2 r2' q2, hs.1, hs.2, k3, k4, k5, p3 W2 H2 (.refl ..) g2 _ (.int _)⟩
          · cases q
        · cases q
  · rw [if_neg hx] at p1; exact p1.elim
theorem ok_bits {m : Sta → Res Hd} {l : Expr} {ap pos : Pos} (ha : attrB l = true) (hl : (ap.endLine == pos.line) = true) (h : PE X l (tE X.K ca ec wx m)) :
    PE X (.Call (.Attribute l "bit_length" ap) [] [] pos) (tE X.K ca ec wx fun st => (m st).bind fun x st1 => ofO st1 (bitsD x)) :=
  (pe_bits h (attr_of ha) hl).imp fun σ H Q ⟨W, st, g, p⟩ => ⟨W, st, g, p.bind.mono fun W1 st1 H1 x f1 g1 p1 v r1 => by
    unfold bitsD at p1
    split at p1
    · cases r1
      exact ⟨_, rfl, p1 W1 H1 (.refl ..) g1 _ (.int _)⟩
    · exact p1.elim⟩
theorem ok_revl {m : Sta → Res Hd} {l : Expr} {j p1 p2 p3 pos} (h : PE X l (tE X.K ca ec wx m)) :
    PE X (.Subscript l (.Slice none none (some (.UnaryOp .USub (.Constant (.int 1) j p1) p2)) p3) pos) (tE X.K ca ec wx fun st => (m st).bind fun x st1 => ofO st1 (revD st1 x)) :=
  (pe_revL h).imp fun σ H Q ⟨W, st, g, p⟩ => ⟨W, st, g, p.bind.mono fun W1 st1 H1 x f1 g1 p1 v r1 => by
    unfold revD at p1
    split at p1
    · rename_i ds q1
      obtain ⟨a, vs, rfl, t, h1, _⟩ := seq_rel g1 r1 q1
      refine ⟨a, vs, rfl, h1 rfl, fun q hq => ?_⟩
      obtain ⟨f2, g2, r2⟩ := new_lst (.refl W1 st1 H1) g1 t.reverse hq
      exact p1 _ _ f2 g2 _ (r2.early f1)
    · exact p1.elim⟩
/-! a text's [::-1] -/
theorem rev_places (n : Nat) : Builtin.Str.strSliceIndices none none (-1) n = (List.range n).map fun k => n - 1 - k := PySem.W.krv_sliceRange n
theorem rev_made (z : Str) (t : PySem.Tok) {a b c : Option (Int × PySem.Tok)} (ha : a.map (·.1) = none) (hb : b.map (·.1) = none) (hc : c.map (·.1) = some (-1)) : sliceMade z t a b c = .str (revS z) := by
  have e : slicePicked z a b c = (List.range z.cps.size).map fun k => z.cps.size - 1 - k := by
    unfold slicePicked
    rw [ha, hb, hc]
    exact rev_places _
  unfold sliceMade
  rw [hc, e, PySem.W.krv_range, List.filterMap_reverse, PySem.W.krv_all]
  rfl
theorem rev_size (z : Str) : (revS z).length = z.length := by
  show (z.cps.toList.reverse.toArray).size = z.cps.size
  simp
/-- the three parts of ::-1, one after the other -/
theorem parts_rev {k : Nat} {p1 p2 : Pos} {pins : List (Addr × Obj)} {σ : L2.St} {H : Hp} {s : Shared} (I : L2.Inv X pins σ H s) {R : Value → Value → Value → Shared → Prop}
    (go : ∀ a b c s', L2.Inv X pins σ H s' → IsPart a none → IsPart b none → IsPart c (some (-1)) → R a b c s') :
    wpAny (model X.prog X.w) X.A (evalPart none X.env) (fun a s1 => wpAny (model X.prog X.w) X.A (evalPart none X.env) (fun b s2 => wpAny (model X.prog X.w) X.A (evalPart (some (.UnaryOp .USub (.Constant (.int 1) k p1) p2)) X.env) (fun c s3 => R a b c s3) X.xe s2) X.xe s1) X.xe s := by
  have one : PO X (some (.UnaryOp .USub (.Constant (.int 1) k p1) p2)) (tPart (tUn (rU fun i => .int (-i)) (tC (.int 1)))) := po_some (pe_un un_neg pe_int)
  refine thn (po_none.run pins s σ H (fun o G => o = none ∧ G = H) I (And.intro rfl rfl)) fun a s1 h1 => ?_
  obtain ⟨_, _, J1, qa, rfl, rfl⟩ := h1
  refine thn (po_none.run pins s1 σ _ (fun o G => o = none ∧ G = _) J1 (And.intro rfl rfl)) fun b s2 h2 => ?_
  obtain ⟨_, _, J2, qb, rfl, rfl⟩ := h2
  refine thn (one.run pins s2 σ _ (fun o G => o = some (-1) ∧ G = _) J2 ⟨1, rfl, -1, rfl, rfl, rfl⟩) fun c s3 h3 => ?_
  obtain ⟨_, _, J3, qc, rfl, rfl⟩ := h3
  exact go a b c s3 J3 qa qb qc
theorem ok_revs {m : Sta → Res Hd} {l : Expr} {j p1 p2 p3 pos} (h : PE X l (tE X.K ca ec wx m)) :
    PE X (.Subscript l (.Slice none none (some (.UnaryOp .USub (.Constant (.int 1) j p1) p2)) p3) pos) (tE X.K ca ec wx fun st => (m st).bind fun x st1 => ofO st1 (revT x)) := by
  refine ⟨fun pins s σ H Q I hq => ?_⟩
  obtain ⟨W, st, g, p⟩ := hq
  have hin : tE X.K ca ec wx m σ H fun v G => ∃ z, v = .str z ∧ z.length ≤ sizeLine ∧ Q (.str (revS z)) G := ⟨W, st, g, p.bind.mono fun W1 st1 H1 x f1 g1 p1 v r1 => by
    cases x with
    | val d =>
      cases d with
      | str z =>
        have p1 : Post X.K ca ec wx W1 st1 σ H1 (ofO st1 (if z.length ≤ sizeLine then some (.val (.str (revS z))) else none)) (PK_ X.K W st σ H Q) := p1
        by_cases hl : z.length ≤ sizeLine
        · rw [if_pos hl] at p1
          cases r1
          exact ⟨z, rfl, hl, p1 W1 H1 (.refl ..) g1 _ (.str _)⟩
        · rw [if_neg hl] at p1; exact p1.elim
      | _ => exact p1.elim
    | _ => exact p1.elim⟩
  refine Subscript_ (thn (h.run pins s σ H _ I hin) fun v s1 hv => ?_)
  obtain ⟨_, H1, I1, rv, z, rfl, hz, q⟩ := hv
  obtain ⟨t, rfl⟩ := rv
  refine wpAny_Slice (parts_rev I1 fun a b c s4 J qa qb qc => ?_)
  obtain ⟨a, rfl, ea⟩ := IsPart.raw qa
  obtain ⟨b, rfl, eb⟩ := IsPart.raw qb
  obtain ⟨c, rfl, ec⟩ := IsPart.raw qc
  have made : (sliceMade z t a b c).post (EP X pins σ Q) { s4 with heap := s4.heap.push { cls := .type "slice", data := .fields #[partValue a, partValue b, partValue c] } } := by
    rw [rev_made z t ea.symm.symm eb ec]
    exact ⟨by rw [rev_size]; exact hz, .str (revS z), H1, J.kept (t' := _) (fun b ob q => Heap.get?_push_of_some _ q), ⟨_, rfl⟩, q⟩
  refine tail_any (ops := [.ref s4.heap.objs.size, .str z t]) (typeIs_str _ _ _) (F.slot_str_getitem.lookup) ?_ (by with_unfolding_all rfl)
  exact wpAny_getItem_str_slice ⟨_, Heap.get?_push_size _ rfl, rfl, rfl⟩ (by rw [ec]; rfl) made
/-- a slice's part -/
def tO (K : PySem.W.Frag) (ca : Ci) (ec : Nat → Addr) (wx : WX) (m : Sta → Res (Option Int)) : TO := fun σ H Q => ∃ W st, Good K ca W st σ H ∧ Post K ca ec wx W st σ H (m st) fun _ _ H' o => Q o H'
theorem ok_part {l : Bool} {m : Sta → Res Hd} {e : Option Expr} (h : match l, e with
    | true, some e => PE X e (tE X.K ca ec wx m)
    | false, none => True
    | _, _ => False) : PO X e (tO X.K ca ec wx (partR l m)) := by
  match l, e, h with
  | true, some e, h =>
    have b := po_some h
    refine ⟨fun pins s σ H Q I q => b.run pins s σ H Q I ?_⟩
    obtain ⟨W, st, g, p⟩ := q
    have p : Post X.K ca ec wx W st σ H ((m st).bind fun y st1 => (match y with
      | .val (.int i) => Res.ok (some i) st1
      | _ => .stuck)) fun _ _ H' o => Q o H' := p
    refine ⟨W, st, g, p.bind.mono fun W1 st1 H1 y f1 g1 p1 v r1 => ?_⟩
    split at p1
    · cases r1
      exact ⟨_, rfl, p1 W1 H1 (.refl ..) g1⟩
    · exact p1.elim
  | false, none, _ =>
    have b := @po_none X
    refine ⟨fun pins s σ H Q I q => b.run pins s σ H Q I ?_⟩
    obtain ⟨W, st, g, p⟩ := q
    exact p W H (.refl ..) g
def rSl (K : PySem.W.Frag) (ca : Ci) : V → Option Int → Option Int → Hp → VK → Prop := fun x lo hi H Q => rD1 K ca (fun st x => slD st x lo hi) x H Q
theorem ok_sl {l h : Bool} {m ml mh : Sta → Res Hd} {e : Expr} {lo hi : Option Expr} {p2 pos : Pos} (he : PE X e (tE X.K ca ec wx m)) (h1 : PO X lo (tO X.K ca ec wx (partR l ml))) (h2 : PO X hi (tO X.K ca ec wx (partR h mh))) :
    PE X (.Subscript e (.Slice lo hi none p2) pos) (tE X.K ca ec wx fun st => (m st).bind fun x st1 => (behind x (fun s => (partR l ml s).bind fun i s1 => (partR h mh s1).bind fun j s2 => .ok (i, j) s2) st1).bind fun p st2 => ofO st2 (slD st2 x p.1 p.2)) := by
  have sr : SlR X (rSl X.K ca) := fun pins s σ' H x v vl vu lo hi sl Q I rx hs i1 i2 ⟨W, st, σ, W1, st1, H1, hx, h, g, r1, e, q⟩ => by
    have e : slD st hx lo hi = some h := e
    unfold slD at e
    split at e
    · rename_i ds q1
      cases e
      obtain ⟨a, vs, rfl, t, h1, _⟩ := seq_rel g r1 q1
      exact sl_list pins s σ' H _ v vl vu lo hi sl Q I rx hs i1 i2 ⟨a, vs, rfl, h1 rfl, new_of g (t.cut lo hi) q⟩
    · rename_i ds q1
      cases e
      have hd : hx = .val (.tup ds) := by
        unfold seqOf at q1
        split at q1 <;> first | (cases q1; rfl) | cases q1 | (split at q1 <;> first | cases q1 | (split at q1 <;> cases q1))
      subst hd
      obtain ⟨a, vs, rfl, t, _, h2, _⟩ := seq_rel g r1 q1
      refine sl_tupA pins s σ' H _ v vl vu lo hi sl Q I rx hs i1 i2 ⟨a, vs, rfl, h2 rfl, fun hw => ?_, fun _ => newT_of g (t.cut lo hi) q⟩
      have ec : cutD ds lo hi = ds := by
        unfold cutD
        rw [← t.length, hw.1, hw.2, Nat.sub_zero, List.drop_zero, t.length, List.take_length]
      refine q W H _ (.refl ..) g ?_
      rw [ec]
      exact r1
    · split at e
      · split at e
        · rename_i hl
          cases e; cases r1
          exact sl_str pins s σ' H _ v vl vu lo hi sl Q I rx hs i1 i2 ⟨_, rfl, hl, q W H _ (.refl ..) g (.str _)⟩
        · cases e
      · cases e
  refine (pe_slice sr he h1 h2).imp fun σ H Q ⟨W, st, g, p⟩ => ⟨W, st, g, p.bind.mono fun W1 st1 H1 x f1 g1 p1 v r1 => ?_⟩
  obtain ⟨st1', g1', hb, p2⟩ := behind_run g1 r1 p1.bind
  refine ⟨W1, st1', g1', p2.bind.mono fun W2 st2 H2 i f2 g2 p3 => ⟨W2, st2, g2, p3.bind.mono fun W3 st3 H3 j f3 g3 p4 => ?_⟩⟩
  obtain ⟨b', g4, f4, r4, p5⟩ := p4 W3 H3 (.refl ..) g3
  exact rD1_of (op := fun st x => slD st x i j) (f1.trans f4) g4 r4 p5
theorem ok_blt2 {b : Blt2} {ma mb : Sta → Res Hd} {l r : Expr} {p pos : Pos} (C : Okc Γ nm ca ec k wx calm sc X) (hc : calm = true) (hx : glB sc (blt2N b) = true) (hs : starB l = true) (hs' : starB r = true) (h : PE X l (tE X.K ca ec wx ma)) (h' : PE X r (tE X.K ca ec wx mb)) :
    PE X (.Call (.Name (blt2N b) p) [l, r] [] pos) (tE X.K ca ec wx fun st => (ma st).bind fun x st1 => (behind x mb st1).bind fun y st2 => ofO st2 (blt2D b x y)) := by
  have fin : ∀ {σ H Q}, tE X.K ca ec wx (fun st => (ma st).bind fun x st1 => (behind x mb st1).bind fun y st2 => ofO st2 (blt2D b x y)) σ H Q → tCB (rB2 X.K ca fun _ => blt2D b) (tCons (tE X.K ca ec wx ma) (tCons (tE X.K ca ec wx mb) tNil)) σ H Q := fun {σ H Q} ⟨W, st, g, p⟩ => by
    refine ⟨W, st, g, p.bind.mono fun W1 st1 H1 x f1 g1 p1 v r1 => ?_⟩
    obtain ⟨st1', g1', hb, p2⟩ := behind_run g1 r1 p1.bind
    refine ⟨W1, st1', g1', p2.mono fun W2 st2' H2 y f2 g2' ⟨b', g2, f2', r1', p3⟩ u r2 => ?_⟩
    exact ⟨v, u, rfl, rD_of (op := fun _ => blt2D b) (f1.trans f2') g2 r1' (r2.setro (b := b') (b0 := st1'.ro)) p3⟩
  cases b with
  | max => exact (pe_callB (call_max_ (C.cl hc)) (gl_of C hx) (C.blt _ (by decide +kernel)) (by decide +kernel) (arg2 hs hs' h h') (by decide +kernel) (by decide +kernel) (star_of hs) (stars_none (es := [r]) (by simp [hs']))).imp fun _ _ _ => fin
  | min => exact (pe_callB (call_min_ (C.cl hc)) (gl_of C hx) (C.blt _ (by decide +kernel)) (by decide +kernel) (arg2 hs hs' h h') (by decide +kernel) (by decide +kernel) (star_of hs) (stars_none (es := [r]) (by simp [hs']))).imp fun _ _ _ => fin
theorem ty_boot (t : Ty) : bootBuiltins (tyS t) = some (.type (tyN t)) := by cases t <;> decide +kernel
theorem ok_isi {t : Ty} {m : Sta → Res Hd} {l : Expr} {p p2 pos : Pos} (C : Okc Γ nm ca ec k wx calm sc X) (hx : glB sc "isinstance" = true) (hy : glB sc (tyS t) = true) (hs : starB l = true) (h : PE X l (tE X.K ca ec wx m)) :
    PE X (.Call (.Name "isinstance" p) [l, .Name (tyS t) p2] [] pos) (tE X.K ca ec wx fun st => (m st).bind fun x st1 => ofO st1 (isiD t st1 x)) := by
  have ht : PE X (.Name (tyS t) p2) (tC (.ty (tyN t))) := pe_bltn (gl_of C hy) (C.blt _ (by cases t <;> decide +kernel)) (ty_boot t) rfl (by cases t <;> decide +kernel) (by cases t <;> decide +kernel)
  refine (pe_callB (call_isi_ (ca := ca) t) (gl_of C hx) (C.blt _ (by decide +kernel)) (by decide +kernel) (arg2 hs rfl h ht) (by decide +kernel) (by decide +kernel) (star_of hs) (stars_none (es := [.Name (tyS t) p2]) rfl)).imp fun σ H Q ⟨W, st, g, p⟩ => ?_
  exact ⟨W, st, g, p.bind.mono fun W1 st1 H1 x f1 g1 p1 v r1 => ⟨v, rfl, rD1_of f1 g1 r1 p1⟩⟩
theorem ok_exi {i c : Nat} {z y : Str} {pz py p pos : Pos} (C : Okc Γ nm ca ec k wx calm sc X) (hx : glB sc "isinstance" = true) (hz : varB nm sc i z = true) (hy : nm.ex[c]? = some y) (hg : glB sc y = true) (hd : notDbg y = true) :
    PE X (.Call (.Name "isinstance" p) [.Name z pz, .Name y py] [] pos) (tE X.K ca ec wx (evE Γ (.exi i c))) := by
  have hcy : PE X (.Name y py) (tC (.ref (ec c))) := pe_glob (gl_of C hg) (C.ex c y hy) rfl (dbg_of hd).1
  refine ⟨fun pins s σ H Q I q => ?_⟩
  obtain ⟨W, st, g, p0⟩ := q
  have p0 : Post X.K ca ec wx W st σ H (match st.env[i]? with
    | some (.exn d) => Res.ok (Hd.val (.bl (Γ.sub d c))) st
    | _ => .stuck) (PK_ X.K W st σ H Q) := p0
  split at p0
  · rename_i d e
    obtain ⟨a, e1, e2⟩ := g.slot i _ e
    have hxa := g.xa.symm.trans e1
    exact (pe_callB (C.xi a d hxa c y hy) (gl_of C hx) (C.blt _ (by decide +kernel)) (by decide +kernel) (arg2 rfl rfl (pe_name C hz) hcy) (by decide +kernel) (by decide +kernel)).run pins s σ H Q I ⟨_, getE e2, rfl, p0 W H (.refl ..) g _ (.bl _)⟩
  · exact p0.elim
/-! ### a call -/
def Wd.slots (W' W : Wd) : Wd := { W' with m := fun o => match o with
  | .slot i => W.m (.slot i)
  | o => W'.m o }
theorem slots_sto {W' W : Wd} {o : Own} (h : o.sto = true) : (W'.slots W).m o = W'.m o := by cases o <;> first | rfl | cases h
theorem live_sto {st : Sta} {o : Own} (so : o.sto = true) {env : List Sl} {ro : Bool} : Live st o ↔ Live ⟨env, st.S, ro⟩ o := by
  cases o <;> first | exact Iff.rfl | cases so
theorem noslot {S : List Ob} {ro : Bool} {o : Own} (l : Live ⟨[], S, ro⟩ o) : o.sto = true := by
  cases o with
  | slot i => obtain ⟨sl, e, _⟩ := l; simp at e
  | _ => rfl
theorem good_sto {W : Wd} {st : Sta} {σ : L2.St} {H : Hp} (g : Good K ca W st σ H) : Good K ca W ⟨[], st.S, st.ro⟩ [] H :=
  ⟨g.gh, fun o o' l l' => g.inj o o' ((live_sto (noslot l)).mpr l) ((live_sto (noslot l')).mpr l'), fun o l => g.out o ((live_sto (noslot l)).mpr l), fun i sl e => by simp at e, g.obj, rfl, g.nb, g.xa⟩
theorem call_back {W W' : Wd} {st : Sta} {S' : List Ob} {σ : L2.St} {H H' : Hp} (g : Good K ca W st σ H) (f : Frm W ⟨[], st.S, st.ro⟩ H W' ⟨[], S', st.ro⟩ H') (g' : Good K ca W' ⟨[], S', st.ro⟩ [] H') :
    Frm W st H (W'.slots W) { st with S := S' } H' ∧ Good K ca (W'.slots W) { st with S := S' } σ H' := by
  have sub : ∀ {a}, Tt W ⟨[], st.S, st.ro⟩ a → ∃ o, o.sto = true ∧ Live st o ∧ W.m o = a := fun {a} ⟨o, l, e⟩ => ⟨o, noslot l, (live_sto (noslot l)).mpr l, e⟩
  have subT : ∀ {a}, Tt W ⟨[], st.S, st.ro⟩ a → Tt W st a := fun h => let ⟨o, _, l, e⟩ := sub h; ⟨o, l, e⟩
  have nosl : ∀ {i}, Live st (.slot i) → ¬ Tt W ⟨[], st.S, st.ro⟩ (W.m (.slot i)) := fun {i} l h => by
    obtain ⟨o, so, l', e⟩ := sub h
    have := g.inj o _ l' l e
    subst this
    cases so
  have kp : ∀ {i}, Live st (.slot i) → H' (W.m (.slot i)) = H (W.m (.slot i)) := fun {i} l => by
    cases e : H (W.m (.slot i)) with
    | none => exact absurd e (g.there l)
    | some o => exact f.keep _ o e (nosl l)
  have lv : ∀ {o}, Live { st with S := S' } o → (∃ i, o = .slot i ∧ Live st o) ∨ (o.sto = true ∧ Live ⟨[], S', st.ro⟩ o) := fun {o} l => by
    cases o with
    | slot i => exact .inl ⟨i, rfl, l⟩
    | box n => exact .inr ⟨rfl, l⟩
    | dx n => exact .inr ⟨rfl, l⟩
    | fld n x => exact .inr ⟨rfl, l⟩
  have apart : ∀ {i o}, Live st (.slot i) → Live ⟨[], S', st.ro⟩ o → W.m (.slot i) ≠ W'.m o := fun {i o} l l' e => by
    rcases f.fresh _ ⟨o, l', e.symm⟩ with z | z
    · exact nosl l z
    · exact g.there l z
  have ex : Ext W' (W'.slots W) := ⟨Same.refl _, Nat.le_refl _, fun _ _ => rfl, rfl⟩
  refine ⟨⟨f.ext.trans ex, fun a o h t => f.keep a o h fun z => t (subT z), f.dom, fun a ⟨o, l, e⟩ => ?_, fun a h => ?_, rfl, f.roS, fun r o so l => ?_⟩, ⟨g'.gh, fun o o' l l' e => ?_, fun o l => ?_, fun i sl e => ?_, fun n ob e => ?_, g.len, g'.nb, g'.xa⟩⟩
  · rcases lv l with ⟨i, rfl, l1⟩ | ⟨so, l1⟩
    · exact .inl ⟨_, l1, e⟩
    · rw [slots_sto so] at e
      rcases f.fresh a ⟨o, l1, e⟩ with z | z
      · exact .inl (subT z)
      · exact .inr z
  · rcases f.gnew a h with z | z | z
    · exact .inl z
    · exact .inr (.inl z)
    · exact .inr (.inr (subT z))
  · rw [slots_sto so]
    exact f.roM r o so ((live_sto so).mp l)
  · rcases lv l with ⟨i, rfl, l1⟩ | ⟨so, l1⟩
    · rcases lv l' with ⟨j, rfl, l2⟩ | ⟨so', l2⟩
      · exact g.inj _ _ l1 l2 e
      · rw [slots_sto so'] at e
        exact absurd e (apart l1 l2)
    · rw [slots_sto so] at e
      rcases lv l' with ⟨j, rfl, l2⟩ | ⟨so', l2⟩
      · exact absurd e.symm (apart l2 l1)
      · rw [slots_sto so'] at e
        exact g'.inj _ _ l1 l2 e
  · rcases lv l with ⟨i, rfl, l1⟩ | ⟨so, l1⟩
    · show W'.G (W.m (.slot i)) = none
      cases q : W'.G (W.m (.slot i)) with
      | none => rfl
      | some o =>
        rcases f.gnew _ (by rw [q]; exact Option.some_ne_none _) with z | z | z
        · exact absurd (g.out _ l1) z
        · exact absurd z (g.there l1)
        · exact absurd z (nosl l1)
    · rw [slots_sto so]; exact g'.out o l1
  · exact (g.slot i sl e).stay (f.ext.trans ex) fun so => ⟨rfl, kp ⟨sl, e, so⟩⟩
  · exact (g'.obj n ob e).stay ex (fun o _ so => ⟨slots_sto so, rfl⟩) e
theorem rep_back {W W' Wc : Wd} {st : Sta} {S' : List Ob} {σ : L2.St} {H H' : Hp} {v : V} {h : Hd} (g : Good K ca W st σ H) (f : Frm W ⟨[], st.S, st.ro⟩ H W' ⟨[], S', st.ro⟩ H') (r : RepH K W ⟨[], st.S, st.ro⟩ H W' ⟨[], S', st.ro⟩ [] H' v h) :
    RepH K W st H (W'.slots W) { st with S := S' } σ H' v h := by
  have ex : Ext W' (W'.slots W) := ⟨Same.refl _, Nat.le_refl _, fun _ _ => rfl, rfl⟩
  have subT : ∀ {a}, Tt W ⟨[], st.S, st.ro⟩ a → Tt W st a := fun ⟨o, l, e⟩ => ⟨o, (live_sto (noslot l)).mpr l, e⟩
  have nT : ∀ {p}, H' p ≠ none → ¬ Tt W' ⟨[], S', st.ro⟩ p → (H p = none ∨ Tt W ⟨[], st.S, st.ro⟩ p) → ¬ Tt (W'.slots W) { st with S := S' } p := fun {p} h1 h2 h3 ⟨o, l, e⟩ => by
    cases o with
    | slot i =>
      have l : Live st (.slot i) := l
      have e : W.m (.slot i) = p := e
      rcases h3 with z | ⟨o', l', e'⟩
      · exact g.there l (e ▸ z)
      · have := g.inj _ _ l ((live_sto (noslot l')).mpr l') (e.trans e'.symm)
        subst this
        exact absurd (noslot l') (by intro z; cases z)
    | box n => exact h2 ⟨.box n, l, e⟩
    | dx n => exact h2 ⟨.dx n, l, e⟩
    | fld n x => exact h2 ⟨.fld n x, l, e⟩
  cases h with
  | val d => exact Rep.ext ex r
  | new ds =>
    obtain ⟨p, vs, e, h1, h2, h3, h4, h5⟩ := r
    exact ⟨p, vs, e, h1, h2.ext ex, h3, nT (by rw [h1]; exact Option.some_ne_none _) h4 h5, h5.imp_right subT⟩
  | newd ds =>
    obtain ⟨p, vs, e, h1, h2, h3, h4, h5⟩ := r
    exact ⟨p, vs, e, h1, h2.ext ex, h3, nT (by rw [h1]; exact Option.some_ne_none _) h4 h5, h5.imp_right subT⟩
  | own i => simp [RepH] at r
  | fld n x => exact r
theorem ok_call {f : Nat} {ms : Sta → Res (List Dt)} {x : Str} {l : Expr} {ls : List Expr} {p pos : Pos} (C : Okc Γ nm ca ec k wx calm sc X) (hc : calm = true) (hf : nm.fn[f]? = some x) (hx : glB sc x = true) (hd : notDbg x = true) (hs : (l :: ls).all starB = true)
    (h : PA X (l :: ls) (tA X.K ca ec wx ms)) : PE X (.Call (.Name x p) (l :: ls) [] pos) (tE X.K ca ec wx fun st => (ms st).bind fun ds st1 => (match Γ.call f st1.ro ds st1.S with
    | .ok h S => .ok h { st1 with S := S }
    | .exc c S => .exc c { st1 with S := S }
    | .stuck => .stuck)) := by
  obtain ⟨a, fd, ps, e1, e2, F, B, ar⟩ := C.fns hc f x hf (nempty_of hd)
  rw [List.all_cons, Bool.and_eq_true] at hs
  refine (pe_callSD (E := WE wx) F ((C.room hc).mono (Nat.le_succ _)) (gl_of C hx) e1 e2 B .nil (passAt C.tk) h (dbg_of hd).1 (star_of hs.1) (stars_none hs.2)).imp fun σ H Q ⟨W, st, g, p⟩ => ?_
  refine ⟨W, st, g, p.bind.mono fun W1 st1 H1 ds f1 g1 p1 vs rs => ?_⟩
  show spF X.K ca ec (Γ.call f) ps.length (vs ++ []) H1 Q (WE wx σ)
  rw [List.append_nil]
  refine ⟨W1, st1.S, st1.ro, ds, ?_, good_sto g1, rs, ?_⟩
  · rw [rs.length]
    refine ar st1.ro ds st1.S fun z => ?_
    rw [z] at p1
    exact p1.elim
  · cases q : Γ.call f st1.ro ds st1.S with
    | stuck => rw [q] at p1; exact p1.elim
    | ok h S =>
      rw [q] at p1
      intro W' H' v fr g' r
      obtain ⟨f2, g2⟩ := call_back g1 fr g'
      exact p1 _ H' f2 g2 v ((rep_back (Wc := W1) g1 fr r).early f1)
    | exc c S =>
      rw [q] at p1
      intro W' H' fr g'
      obtain ⟨f2, g2⟩ := call_back g1 fr g'
      exact p1 _ H' f2 g2
end
end EV
namespace EV
open PySem PySem.Spec PyProof.Rows L2
/-! ### instances -/
theorem putS_lookup (f g : Str) (x : Sl) : ∀ fs : List (Str × Sl), (putS f x fs).lookup g = if g = f then some x else fs.lookup g
  | [] => by
    show List.lookup g [(f, x)] = _
    by_cases h : g = f
    · have hb : (g == f) = true := beq_iff_eq.mpr h
      simp only [List.lookup, hb, if_pos h]
    · have hb : (g == f) = false := beq_eq_false_iff_ne.mpr h
      simp only [List.lookup, hb, if_neg h]
  | (k, y) :: r => by
    have ih := putS_lookup f g x r
    rw [show putS f x ((k, y) :: r) = (if k = f then (k, x) :: r else (k, y) :: putS f x r) from rfl]
    by_cases hk : k = f
    · rw [if_pos hk]
      by_cases h : g = k
      · have hb : (g == k) = true := beq_iff_eq.mpr h
        simp only [List.lookup, hb, if_pos (h.trans hk)]
      · have hb : (g == k) = false := beq_eq_false_iff_ne.mpr h
        simp only [List.lookup, hb, if_neg (fun e : g = f => h (e.trans hk.symm))]
    · rw [if_neg hk]
      by_cases h : g = k
      · have hb : (g == k) = true := beq_iff_eq.mpr h
        simp only [List.lookup, hb, if_neg (fun e : g = f => hk (h.symm.trans e))]
      · have hb : (g == k) = false := beq_eq_false_iff_ne.mpr h
        simp only [List.lookup, hb]
        exact ih
theorem putS_mem (f g : Str) (x : Sl) : ∀ fs : List (Str × Sl), g ∈ (putS f x fs).map (·.1) → g = f ∨ g ∈ fs.map (·.1)
  | [], h => by
    have h : g ∈ [f] := h
    exact .inl (List.mem_singleton.1 h)
  | (k, y) :: r, h => by
    rw [show putS f x ((k, y) :: r) = (if k = f then (k, x) :: r else (k, y) :: putS f x r) from rfl] at h
    by_cases hk : k = f
    · rw [if_pos hk] at h; exact .inr h
    · rw [if_neg hk] at h
      have h : g ∈ k :: (putS f x r).map (·.1) := h
      rcases List.mem_cons.1 h with h | h
      · exact .inr (h ▸ List.mem_cons_self)
      · exact (putS_mem f g x r h).imp_right (List.mem_cons_of_mem _)
theorem putS_nodup (f : Str) (x : Sl) : ∀ fs : List (Str × Sl), (fs.map (·.1)).Nodup → ((putS f x fs).map (·.1)).Nodup
  | [], _ => by
    show [f].Nodup
    exact List.nodup_cons.2 ⟨by simp, List.nodup_nil⟩
  | (k, y) :: r, h => by
    have h2 := List.nodup_cons.1 (show (k :: r.map (·.1)).Nodup from h)
    rw [show putS f x ((k, y) :: r) = (if k = f then (k, x) :: r else (k, y) :: putS f x r) from rfl]
    by_cases hk : k = f
    · rw [if_pos hk]; exact h
    · rw [if_neg hk]
      refine List.nodup_cons.2 ⟨fun z => ?_, putS_nodup f x r h2.2⟩
      rcases putS_mem f k x r z with z | z
      · exact hk z
      · exact h2.1 z
theorem putF_same (f : Str) (v : V) : ∀ us : List (Str × V), us.lookup f = some v → putF f v us = us
  | [], h => by simp at h
  | (k, y) :: r, h => by
    rw [show putF f v ((k, y) :: r) = (if k = f then (k, v) :: r else (k, y) :: putF f v r) from rfl]
    by_cases hk : k = f
    · rw [if_pos hk]
      have hb : (f == k) = true := beq_iff_eq.mpr hk.symm
      simp only [List.lookup, hb, Option.some.injEq] at h
      rw [h]
    · rw [if_neg hk]
      have hb : (f == k) = false := beq_eq_false_iff_ne.mpr fun e => hk e.symm
      simp only [List.lookup, hb] at h
      rw [putF_same f v r h]
section
variable {K : PySem.W.Frag} {ca : Ci} {W W0 W' : Wd} {st st0 : Sta} {σ : L2.St} {H H0 H' : Hp} {v : V} {h : Hd} {p : Addr} {ob : HO}
theorem FldRel.put {n : Nat} {f : Str} {x : Sl} (e : Ext W W') (hx : x.fit = true) (rx : SlRel K W' H' (.fld n f) (some v) x) : ∀ {us : List (Str × V)} {fs : List (Str × Sl)}, FldRel K W H n us fs → (fs.map (·.1)).Nodup →
    (∀ g sl, g ≠ f → (g, sl) ∈ fs → sl.isOwn = true → W'.m (.fld n g) = W.m (.fld n g) ∧ H' (W.m (.fld n g)) = H (W.m (.fld n g))) → FldRel K W' H' n (putF f v us) (putS f x fs)
  | _, _, .nil, _, _ => .cons hx rx .nil
  | _, _, .cons (f := g) (v := u) (sl := sl) (vs := us) (fs := fs) nn r t, nd, hm => by
    have nd2 := List.nodup_cons.1 (show (g :: fs.map (·.1)).Nodup from nd)
    rw [show putF f v ((g, u) :: us) = (if g = f then (g, v) :: us else (g, u) :: putF f v us) from rfl, show putS f x ((g, sl) :: fs) = (if g = f then (g, x) :: fs else (g, sl) :: putS f x fs) from rfl]
    by_cases hk : g = f
    · rw [if_pos hk, if_pos hk]
      refine .cons hx (hk ▸ rx) (t.stay e fun g' sl' h' so => ?_)
      refine hm g' sl' (fun z => nd2.1 ?_) (List.mem_cons_of_mem _ h') so
      rw [hk, ← z]
      exact List.mem_map.2 ⟨(g', sl'), h', rfl⟩
    · rw [if_neg hk, if_neg hk]
      exact .cons nn (r.stay e fun so => hm g sl hk List.mem_cons_self so) (FldRel.put e hx rx t nd2.2 (fun g' sl' hg h' => hm g' sl' hg (List.mem_cons_of_mem _ h')))
theorem FldRel.length {n : Nat} : ∀ {us : List (Str × V)} {fs : List (Str × Sl)}, FldRel K W H n us fs → us.length = fs.length
  | _, _, .nil => rfl
  | _, _, .cons _ _ t => congrArg (· + 1) (FldRel.length t)
theorem FldRel.lookN {n : Nat} {f : Str} : ∀ {us : List (Str × V)} {fs : List (Str × Sl)}, FldRel K W H n us fs → fs.lookup f = none → us.lookup f = none
  | _, _, .nil, _ => rfl
  | _, _, .cons (f := g) _ _ t, e => by
    rw [List.lookup_cons] at e ⊢
    cases q : (f == g) with
    | true => rw [q] at e; cases e
    | false => rw [q] at e; exact FldRel.lookN t e
/-- an instance's field is changed -/
theorem ins_upd {n c : Nat} {f : Str} {fs : List (Str × Sl)} {x : Sl} (e : st.S[n]? = some (.ins c fs)) (hr : st.ro = false) (fr : Frm W0 st0 H0 W st H) (g : Good K ca W st σ H)
    (hm : ∀ o, o ≠ .fld n f → W'.m o = W.m o) (hG : W'.G = W.G) (hnb : W'.nb = W.nb) (hxa : W'.xa = W.xa)
    (hf : x.isOwn = true → (Live st (.fld n f) ∧ W'.m (.fld n f) = W.m (.fld n f)) ∨ (W.G (W'.m (.fld n f)) = none ∧ ¬ Tt W st (W'.m (.fld n f)) ∧ (H0 (W'.m (.fld n f)) = none ∨ Tt W0 st0 (W'.m (.fld n f)))))
    (hH : ∀ a, a ≠ W.m (.box n) → (Live st (.fld n f) → a ≠ W.m (.fld n f)) → H' a = H a) (hd : ∀ a, H' a = none → H a = none)
    (r : ObRel K ca W' H' n (.ins c (putS f x fs))) :
    Frm W0 st0 H0 W' (st.setF n c fs f x) H' ∧ Good K ca W' (st.setF n c fs f x) σ H' := by
  have lt : n < st.S.length := (List.getElem?_eq_some_iff.mp e).1
  have li : Live st (.box n) := ⟨_, e, by intro z; cases z⟩
  have ldx : Live st (.dx n) := ⟨c, fs, e⟩
  have old : ∀ {j : Nat} {o : Ob}, (st.setF n c fs f x).S[j]? = some o → (j = n ∧ o = .ins c (putS f x fs)) ∨ (j ≠ n ∧ st.S[j]? = some o) := fun {j o} e => by
    have e : (st.S.set n (.ins c (putS f x fs)))[j]? = some o := e
    by_cases q : n = j
    · subst q; rw [List.getElem?_set_self lt] at e; cases e; exact .inl ⟨rfl, rfl⟩
    · rw [List.getElem?_set_ne q] at e; exact .inr ⟨fun z => q z.symm, e⟩
  have lv : ∀ {o : Own}, Live (st.setF n c fs f x) o → (o = .fld n f ∧ x.isOwn = true) ∨ (o ≠ .fld n f ∧ Live st o) := fun {o} l => by
    cases o with
    | slot i => exact .inr ⟨by (intro z; cases z), l⟩
    | box j =>
      obtain ⟨o', e', d⟩ := l
      rcases old e' with ⟨z, _⟩ | ⟨_, z⟩
      · subst z; exact .inr ⟨by (intro z; cases z), li⟩
      · exact .inr ⟨by (intro z; cases z), o', z, d⟩
    | dx j =>
      obtain ⟨c', fs', e'⟩ := l
      rcases old e' with ⟨z, _⟩ | ⟨_, z⟩
      · subst z; exact .inr ⟨by (intro z; cases z), ldx⟩
      · exact .inr ⟨by (intro z; cases z), c', fs', z⟩
    | fld j y =>
      obtain ⟨c', fs', sl, e', q, so⟩ := l
      rcases old e' with ⟨z, z2⟩ | ⟨z2, z⟩
      · subst z
        cases z2
        rw [putS_lookup] at q
        by_cases hy : y = f
        · subst hy
          rw [if_pos rfl] at q
          cases q
          exact .inl ⟨rfl, so⟩
        · rw [if_neg hy] at q
          exact .inr ⟨fun z => hy (by cases z; rfl), c, fs, sl, e, q, so⟩
      · exact .inr ⟨fun z => z2 (by cases z; rfl), c', fs', sl, z, q, so⟩
  have ex : Ext W W' := ⟨by rw [hG]; exact Same.refl _, Nat.le_of_eq hnb.symm, fun j _ => hm _ (by intro z; cases z), hxa⟩
  have nr : st0.ro ≠ true := fun z => by rw [← fr.ro, hr] at z; cases z
  have ne : ∀ {o o'}, Live st o → Live st o' → o ≠ o' → W.m o ≠ W.m o' := fun l l' q z => q (g.inj _ _ l l' z)
  have hH' : ∀ {o}, Live st o → o ≠ .box n → o ≠ .fld n f → H' (W.m o) = H (W.m o) := fun l q1 q2 => hH _ (ne l li q1) fun l2 => ne l l2 q2
  have keepA : ∀ a, ¬ Tt W st a → H' a = H a := fun a t => hH a (fun z => t ⟨_, li, z.symm⟩) fun l2 z => t ⟨_, l2, z.symm⟩
  refine ⟨⟨fr.ext.trans ex, fun a o h t => ?_, fun a h => fr.dom a (hd a h), fun a ⟨o, l, e⟩ => ?_, fun a h => fr.gnew a (by rw [← hG]; exact h), fr.ro, fun z => absurd z nr, fun z => absurd z nr⟩, ⟨fun b o h => ?_, fun o o' l l' e => ?_, fun o l => ?_, fun i sl e' => ?_, fun j o e' => ?_, g.len, ?_, hxa.trans g.xa⟩⟩
  · rw [keepA a fun t1 => ?_]
    · exact fr.keep a o h t
    · rcases fr.fresh a t1 with z | z
      · exact t z
      · rw [h] at z; cases z
  · rcases lv l with ⟨z, so⟩ | ⟨z, l1⟩
    · subst z
      rcases hf so with ⟨l2, z⟩ | ⟨_, _, z⟩
      · rw [z] at e; exact fr.fresh a ⟨_, l2, e⟩
      · rw [e] at z; exact z.symm
    · rw [hm o z] at e; exact fr.fresh a ⟨o, l1, e⟩
  · rw [hG] at h
    rw [keepA b fun ⟨o', l, e'⟩ => ?_]
    · exact g.gh b o h
    · rw [← e', g.out _ l] at h; cases h
  · rcases lv l with ⟨z, so⟩ | ⟨z, l1⟩
    · rcases lv l' with ⟨z', so'⟩ | ⟨z', l1'⟩
      · rw [z, z']
      · subst z
        rw [hm o' z'] at e
        rcases hf so with ⟨l2, y⟩ | ⟨_, y, _⟩
        · rw [y] at e; exact g.inj _ _ l2 l1' e
        · exact absurd ⟨_, l1', e.symm⟩ y
    · rw [hm o z] at e
      rcases lv l' with ⟨z', so'⟩ | ⟨z', l1'⟩
      · subst z'
        rcases hf so' with ⟨l2, y⟩ | ⟨_, y, _⟩
        · rw [y] at e; exact g.inj _ _ l1 l2 e
        · exact absurd ⟨_, l1, e⟩ y
      · rw [hm o' z'] at e
        exact g.inj _ _ l1 l1' e
  · rw [hG]
    rcases lv l with ⟨z, so⟩ | ⟨z, l1⟩
    · subst z
      rcases hf so with ⟨l2, y⟩ | ⟨y, _, _⟩
      · rw [y]; exact g.out _ l2
      · exact y
    · rw [hm o z]; exact g.out _ l1
  · exact (g.slot i sl e').stay ex fun so => ⟨hm _ (by intro z; cases z), hH' ⟨sl, e', so⟩ (by intro z; cases z) (by intro z; cases z)⟩
  · rcases old e' with ⟨z, q⟩ | ⟨z, q⟩
    · subst z; subst q; exact r
    · refine (g.obj j o q).stayJ ex (fun o' l so hj => ⟨hm o' ?_, hH' l ?_ ?_⟩) q
      · intro y; subst y; exact z hj.symm
      · intro y; subst y; exact z hj.symm
      · intro y; subst y; exact z hj.symm
  · show W'.nb = (st.S.set n _).length
    rw [List.length_set, hnb]; exact g.nb
/-- a field's own object is written -/
theorem mut_fld {n c : Nat} {f : Str} {fs : List (Str × Sl)} {sl x : Sl} (e : st.S[n]? = some (.ins c fs)) (l : fs.lookup f = some sl) (so : sl.isOwn = true) (sx : x.isOwn = true) (hr : st.ro = false) (fr : Frm W0 st0 H0 W st H) (g : Good K ca W st σ H)
    (r : SlRel K W (upd H (W.m (.fld n f)) ob) (.fld n f) (some (.ref (W.m (.fld n f)))) x) :
    Frm W0 st0 H0 W (st.setF n c fs f x) (upd H (W.m (.fld n f)) ob) ∧ Good K ca W (st.setF n c fs f x) σ (upd H (W.m (.fld n f)) ob) := by
  have lf : Live st (.fld n f) := ⟨c, fs, sl, e, l, so⟩
  have li : Live st (.box n) := ⟨_, e, by intro z; cases z⟩
  have ldx : Live st (.dx n) := ⟨c, fs, e⟩
  have ne : ∀ {o}, Live st o → o ≠ .fld n f → W.m o ≠ W.m (.fld n f) := fun l q z => q (g.inj _ _ l lf z)
  obtain ⟨us, h1, h2, h3, nd⟩ := g.obj n _ e
  obtain ⟨v, lk, rv, _⟩ := h3.look l
  have ev : v = .ref (W.m (.fld n f)) := by
    cases sl with
    | own ds => obtain ⟨e1, _⟩ := rv; simpa using e1
    | ownd ds => obtain ⟨e1, _⟩ := rv; simpa using e1
    | none => cases so
    | val d => cases so
    | exn c => cases so
  subst ev
  have fx : x.fit = true := by cases x <;> first | rfl | cases sx
  refine ins_upd e hr fr g (fun _ _ => rfl) rfl rfl rfl (fun _ => .inl ⟨lf, rfl⟩) (fun a _ h => upd_ne (h lf)) (fun a h => ?_) ⟨us, ?_, ?_, ?_, putS_nodup f x fs nd⟩
  · by_cases z : a = W.m (.fld n f)
    · rw [z, upd_same] at h; cases h
    · rw [upd_ne z] at h; exact h
  · rw [upd_ne (ne li (by intro z; cases z))]; exact h1
  · rw [upd_ne (ne ldx (by intro z; cases z))]; exact h2
  · have p := FldRel.put (f := f) (.refl W) fx r h3 nd fun g' sl' hg h' so' => ⟨rfl, upd_ne (ne ⟨c, fs, sl', e, lookup_of_mem nd h', so'⟩ (by intro z; cases z; exact hg rfl))⟩
    rw [putF_same f _ us lk] at p
    exact p
/-- a field is stored -/
theorem set_fld {n c : Nat} {f : Str} {fs : List (Str × Sl)} {x : Sl} {us : List (Str × V)} {W' : Wd} (e : st.S[n]? = some (.ins c fs)) (hr : st.ro = false) (fr : Frm W0 st0 H0 W st H) (g : Good K ca W st σ H) (h1 : H (W.m (.box n)) = some (.ins (ca.cls c) (W.m (.dx n)) us))
    (hm : ∀ o, o ≠ .fld n f → W'.m o = W.m o) (hG : W'.G = W.G) (hnb : W'.nb = W.nb) (hxa : W'.xa = W.xa) (fx : x.fit = true)
    (hf : x.isOwn = true → (W.G (W'.m (.fld n f)) = none ∧ ¬ Tt W st (W'.m (.fld n f)) ∧ (H0 (W'.m (.fld n f)) = none ∨ Tt W0 st0 (W'.m (.fld n f)))))
    (r : SlRel K W' (upd H (W.m (.box n)) (.ins (ca.cls c) (W.m (.dx n)) (putF f v us))) (.fld n f) (some v) x) :
    Frm W0 st0 H0 W' (st.setF n c fs f x) (upd H (W.m (.box n)) (.ins (ca.cls c) (W.m (.dx n)) (putF f v us))) ∧ Good K ca W' (st.setF n c fs f x) σ (upd H (W.m (.box n)) (.ins (ca.cls c) (W.m (.dx n)) (putF f v us))) := by
  have li : Live st (.box n) := ⟨_, e, by intro z; cases z⟩
  have ldx : Live st (.dx n) := ⟨c, fs, e⟩
  have ne : ∀ {o}, Live st o → o ≠ .box n → W.m o ≠ W.m (.box n) := fun l q z => q (g.inj _ _ l li z)
  obtain ⟨us', h1', h2, h3, nd⟩ := g.obj n _ e
  rw [h1] at h1'
  cases h1'
  have ex : Ext W W' := ⟨by rw [hG]; exact Same.refl _, Nat.le_of_eq hnb.symm, fun j _ => hm _ (by intro z; cases z), hxa⟩
  have mb : W'.m (.box n) = W.m (.box n) := hm _ (by intro z; cases z)
  have md : W'.m (.dx n) = W.m (.dx n) := hm _ (by intro z; cases z)
  refine ins_upd e hr fr g hm hG hnb hxa (fun so => .inr (hf so)) (fun a h _ => upd_ne h) (fun a h => ?_) ⟨putF f v us, ?_, ?_, ?_, putS_nodup f x fs nd⟩
  · by_cases z : a = W.m (.box n)
    · rw [z, upd_same] at h; cases h
    · rw [upd_ne z] at h; exact h
  · rw [mb, md, upd_same]
  · rw [mb, md, upd_ne (ne ldx (by intro z; cases z))]; exact h2
  · exact FldRel.put (f := f) ex fx r h3 nd fun g' sl' hg h' so' => ⟨hm _ (by intro z; cases z; exact hg rfl), upd_ne (ne ⟨c, fs, sl', e, lookup_of_mem nd h', so'⟩ (by intro z; cases z))⟩
/-- a new instance -/
theorem new_ins {c : Nat} {a dx : Addr} (f : Frm W0 st0 H0 W st H) (g : Good K ca W st σ H) (ha : H a = none) (hd : H dx = none) (hn : dx ≠ a) :
    ∃ W', Frm W0 st0 H0 W' { st with S := st.S ++ [.ins c []] } (upd (upd H dx (.own a)) a (.ins (ca.cls c) dx [])) ∧ Good K ca W' { st with S := st.S ++ [.ins c []] } σ (upd (upd H dx (.own a)) a (.ins (ca.cls c) dx [])) ∧ W'.m (.box st.S.length) = a ∧ st.S.length < W'.nb ∧ Ext W W' := by
  have g1 := g.alloc (ob := .own a) hd
  have f1 := f.alloc (ob := .own a) hd g
  have ha1 : upd H dx (.own a) a = none := by rw [upd_ne (fun z => hn z.symm)]; exact ha
  have g2 := g1.alloc (ob := .ins (ca.cls c) dx []) ha1
  have f2 := f1.alloc (ob := .ins (ca.cls c) dx []) ha1 g1
  have na : ¬ Tt W st a := g.notT ha
  have nd : ¬ Tt W st dx := g.notT hd
  have hGa : W.G a = none := by
    cases q : W.G a with
    | none => rfl
    | some o => rw [g.gh a o q] at ha; cases ha
  have hGd : W.G dx = none := by
    cases q : W.G dx with
    | none => rfl
    | some o => rw [g.gh dx o q] at hd; cases hd
  have h0a : H0 a = none := f.dom a ha
  have h0d : H0 dx = none := f.dom dx hd
  have hHa : upd (upd H dx (.own a)) a (.ins (ca.cls c) dx []) a = some (.ins (ca.cls c) dx []) := upd_same
  have hHd : upd (upd H dx (.own a)) a (.ins (ca.cls c) dx []) dx = some (.own a) := by rw [upd_ne hn, upd_same]
  generalize upd (upd H dx (.own a)) a (.ins (ca.cls c) dx []) = H' at g2 f2 hHa hHd
  have hnb := g.nb
  refine ⟨{ ((W.setm (.box st.S.length) a).setm (.dx st.S.length) dx) with nb := st.S.length + 1 }, ?_⟩
  generalize hW : ({ ((W.setm (.box st.S.length) a).setm (.dx st.S.length) dx) with nb := st.S.length + 1 } : Wd) = W'
  have hm : ∀ o, o ≠ .box st.S.length → o ≠ .dx st.S.length → W'.m o = W.m o := fun o h h' => by
    subst hW
    show ((W.setm (.box st.S.length) a).setm (.dx st.S.length) dx).m o = W.m o
    rw [setm_ne h', setm_ne h]
  have hb : W'.m (.box st.S.length) = a := by
    subst hW
    show ((W.setm (.box st.S.length) a).setm (.dx st.S.length) dx).m (.box st.S.length) = a
    rw [setm_ne (by intro z; cases z), setm_same]
  have hx : W'.m (.dx st.S.length) = dx := by subst hW; exact setm_same
  have hG : W'.G = W.G := by subst hW; rfl
  have hnb' : W'.nb = st.S.length + 1 := by subst hW; rfl
  have hxa : W'.xa = W.xa := by subst hW; rfl
  have ex : Ext W W' := ⟨by rw [hG]; exact Same.refl _, by omega, fun n h => hm _ (by intro z; cases z; omega) (by intro z; cases z), hxa⟩
  have old : ∀ {n : Nat} {ob : Ob}, (st.S ++ [.ins c []])[n]? = some ob → (st.S[n]? = some ob ∧ n ≠ st.S.length) ∨ (n = st.S.length ∧ ob = .ins c []) := fun {n ob} e => by
    by_cases lt : n < st.S.length
    · rw [List.getElem?_append_left lt] at e; exact .inl ⟨e, by omega⟩
    · rw [List.getElem?_append_right (by omega)] at e
      have lt2 := (List.getElem?_eq_some_iff.mp e).1
      simp only [List.length_singleton] at lt2
      have e2 : n = st.S.length := by omega
      subst e2
      simp at e
      exact .inr ⟨rfl, e.symm⟩
  have lv : ∀ {o : Own}, Live { st with S := st.S ++ [.ins c []] } o → o = .box st.S.length ∨ o = .dx st.S.length ∨ (o ≠ .box st.S.length ∧ o ≠ .dx st.S.length ∧ Live st o) := fun {o} l => by
    cases o with
    | slot i => exact .inr (.inr ⟨by (intro z; cases z), by (intro z; cases z), l⟩)
    | box n =>
      obtain ⟨ob, e, d⟩ := l
      rcases old e with ⟨z, q⟩ | ⟨z, _⟩
      · exact .inr (.inr ⟨(by intro y; cases y; exact q rfl), by (intro z; cases z), ob, z, d⟩)
      · exact .inl (by rw [z])
    | dx n =>
      obtain ⟨c', fs, e⟩ := l
      rcases old e with ⟨z, q⟩ | ⟨z, _⟩
      · exact .inr (.inr ⟨by (intro z; cases z), (by intro y; cases y; exact q rfl), c', fs, z⟩)
      · exact .inr (.inl (by rw [z]))
    | fld n x =>
      obtain ⟨c', fs, sl, e, q⟩ := l
      rcases old e with ⟨z, _⟩ | ⟨_, z⟩
      · exact .inr (.inr ⟨by (intro z; cases z), by (intro z; cases z), c', fs, sl, z, q⟩)
      · cases z; simp at q
  have keepL : ∀ {n : Nat} {ob : Ob}, st.S[n]? = some ob → (st.S ++ [.ins c []])[n]? = some ob := fun {n ob} e => by
    rw [List.getElem?_append_left (List.getElem?_eq_some_iff.mp e).1]; exact e
  have oldne : ∀ {o : Own}, Live st o → o ≠ .box st.S.length ∧ o ≠ .dx st.S.length := fun {o} l => by
    constructor
    · intro z; subst z
      obtain ⟨ob, e, _⟩ := l
      have := (List.getElem?_eq_some_iff.mp e).1
      omega
    · intro z; subst z
      obtain ⟨c', fs, e⟩ := l
      have := (List.getElem?_eq_some_iff.mp e).1
      omega
  refine ⟨⟨f2.ext.trans ex, f2.keep, f2.dom, fun b ⟨o, l, e⟩ => ?_, fun b h => f2.gnew b (by rw [← hG]; exact h), f2.ro, fun r n ob e => keepL (f2.roS r n ob e), fun r o so l => ?_⟩, ⟨by rw [hG]; exact g2.gh, fun o o' l l' e => ?_, fun o l => ?_, fun i sl e => ?_, fun n ob e => ?_, g2.len, by rw [hnb']; simp, hxa.trans g2.xa⟩, hb, by omega, ex⟩
  · rcases lv l with z | z | ⟨z, z', l1⟩
    · subst z; rw [hb] at e; subst e; exact .inr h0a
    · subst z; rw [hx] at e; subst e; exact .inr h0d
    · rw [hm o z z'] at e; exact f2.fresh b ⟨o, l1, e⟩
  · obtain ⟨e1, e2⟩ := f2.roM r o so l
    have l1 := live_mono (f2.roS r) so l
    exact ⟨(hm o (oldne l1).1 (oldne l1).2).trans e1, e2⟩
  · rcases lv l with z | z | ⟨z, z2, l1⟩
    · rcases lv l' with z' | z' | ⟨z', z2', l1'⟩
      · rw [z, z']
      · subst z; subst z'; rw [hb, hx] at e; exact absurd e.symm hn
      · subst z; rw [hb, hm o' z' z2'] at e
        exact absurd ⟨o', l1', e.symm⟩ na
    · rcases lv l' with z' | z' | ⟨z', z2', l1'⟩
      · subst z; subst z'; rw [hb, hx] at e; exact absurd e hn
      · rw [z, z']
      · subst z; rw [hx, hm o' z' z2'] at e
        exact absurd ⟨o', l1', e.symm⟩ nd
    · rw [hm o z z2] at e
      rcases lv l' with z' | z' | ⟨z', z2', l1'⟩
      · subst z'; rw [hb] at e
        exact absurd ⟨o, l1, e⟩ na
      · subst z'; rw [hx] at e
        exact absurd ⟨o, l1, e⟩ nd
      · rw [hm o' z' z2'] at e
        exact g2.inj _ _ l1 l1' e
  · rw [hG]
    rcases lv l with z | z | ⟨z, z', l1⟩
    · subst z; rw [hb]; exact hGa
    · subst z; rw [hx]; exact hGd
    · rw [hm o z z']; exact g2.out o l1
  · exact (g2.slot i sl e).stay ex fun so => ⟨hm _ (by intro z; cases z) (by intro z; cases z), rfl⟩
  · rcases old e with ⟨z, q⟩ | ⟨z, q⟩
    · exact (g2.obj n ob z).stay ex (fun o l so => ⟨hm o (oldne l).1 (oldne l).2, rfl⟩) z
    · subst z; subst q
      exact ⟨[], by rw [hb, hx]; exact hHa, by rw [hx, hb]; exact hHd, .nil, List.nodup_nil⟩
end
end EV
namespace EV
open PySem PySem.Spec PyProof.Rows L2
section
variable {K : PySem.W.Frag} {ca : Ci} {ec : Nat → Addr} {wx : WX} {W W0 : Wd} {st st0 : Sta} {σ : L2.St} {H H0 : Hp} {Q : VK} {α β : Type} {v : V}
/-- behind a run, the base kept -/
theorem Post.bind0 {r : Res α} {f : α → Sta → Res β} {P : Wd → Sta → Hp → β → Prop} (h : Post K ca ec wx W st σ H (r.bind f) P) :
    Post K ca ec wx W st σ H r fun W' st' H' a => Post K ca ec wx W st σ H (f a st') P := by
  cases r with
  | ok a st' => exact fun W' H' fr g => h
  | exc c st' => exact h
  | stuck => exact h
/-- a new list goes into the store -/
theorem new_box {ds : List Dt} (f : Frm W0 st0 H0 W st H) (g : Good K ca W st σ H) (r : RepH K W0 st0 H0 W st σ H v (.new ds)) :
    ∃ W', Frm W0 st0 H0 W' { st with S := st.S ++ [.lst ds] } H ∧ Good K ca W' { st with S := st.S ++ [.lst ds] } σ H ∧ Rep K W' v (.box st.S.length) := by
  obtain ⟨p, vs, rfl, h1, h2, h3, h4, h5⟩ := r
  have hn := g.nb
  -- the new world
  refine ⟨{ (W.setm (.box st.S.length) p) with nb := st.S.length + 1 }, ?_⟩
  generalize hW : ({ (W.setm (.box st.S.length) p) with nb := st.S.length + 1 } : Wd) = W'
  have hm : ∀ o, o ≠ .box st.S.length → W'.m o = W.m o := fun o h => by subst hW; exact setm_ne h
  have hb : W'.m (.box st.S.length) = p := by subst hW; exact setm_same
  have hG : W'.G = W.G := by subst hW; rfl
  have hnb : W'.nb = st.S.length + 1 := by subst hW; rfl
  have hxa : W'.xa = W.xa := by subst hW; rfl
  have ex : Ext W W' := ⟨by rw [hG]; exact Same.refl _, by omega, fun n h => hm _ (by intro z; cases z; omega), hxa⟩
  have old : ∀ {n : Nat} {ob : Ob}, (st.S ++ [.lst ds])[n]? = some ob → (st.S[n]? = some ob ∧ n ≠ st.S.length) ∨ (n = st.S.length ∧ ob = .lst ds) := fun {n ob} e => by
    by_cases lt : n < st.S.length
    · rw [List.getElem?_append_left lt] at e; exact .inl ⟨e, by omega⟩
    · rw [List.getElem?_append_right (by omega)] at e
      have lt2 := (List.getElem?_eq_some_iff.mp e).1
      simp only [List.length_singleton] at lt2
      have e2 : n = st.S.length := by omega
      subst e2
      simp at e
      exact .inr ⟨rfl, e.symm⟩
  have lv : ∀ {o : Own}, Live { st with S := st.S ++ [.lst ds] } o → o = .box st.S.length ∨ (o ≠ .box st.S.length ∧ Live st o) := fun {o} l => by
    cases o with
    | slot i => exact .inr ⟨by (intro z; cases z), l⟩
    | box n =>
      obtain ⟨ob, e, d⟩ := l
      rcases old e with ⟨z, q⟩ | ⟨z, _⟩
      · exact .inr ⟨(by intro y; cases y; exact q rfl), ob, z, d⟩
      · exact .inl (by rw [z])
    | dx n =>
      obtain ⟨c, fs, e⟩ := l
      rcases old e with ⟨z, _⟩ | ⟨_, z⟩
      · exact .inr ⟨by (intro z; cases z), c, fs, z⟩
      · cases z
    | fld n x =>
      obtain ⟨c, fs, sl, e, q⟩ := l
      rcases old e with ⟨z, _⟩ | ⟨_, z⟩
      · exact .inr ⟨by (intro z; cases z), c, fs, sl, z, q⟩
      · cases z
  have keepL : ∀ {n : Nat} {ob : Ob}, st.S[n]? = some ob → (st.S ++ [.lst ds])[n]? = some ob := fun {n ob} e => by
    rw [List.getElem?_append_left (List.getElem?_eq_some_iff.mp e).1]; exact e
  refine ⟨⟨f.ext.trans ex, f.keep, f.dom, fun a ⟨o, l, e⟩ => ?_, fun a h => f.gnew a (by rw [← hG]; exact h), f.ro, fun r n ob e => keepL (f.roS r n ob e), fun r o so l => ?_⟩, ⟨by rw [hG]; exact g.gh, fun o o' l l' e => ?_, fun o l => ?_, fun i sl e => ?_, fun n ob e => ?_, g.len, by rw [hnb]; simp, hxa.trans g.xa⟩, ?_⟩
  · rcases lv l with z | ⟨z, l1⟩
    · subst z; rw [hb] at e; subst e; exact h5.symm
    · rw [hm o z] at e; exact f.fresh a ⟨o, l1, e⟩
  · obtain ⟨e1, e2⟩ := f.roM r o so l
    have l1 := live_mono (f.roS r) so l
    refine ⟨(hm o ?_).trans e1, e2⟩
    intro z; subst z
    obtain ⟨ob, e, _⟩ := l1
    have := (List.getElem?_eq_some_iff.mp e).1
    omega
  · rcases lv l with z | ⟨z, l1⟩
    · rcases lv l' with z' | ⟨z', l1'⟩
      · rw [z, z']
      · subst z; rw [hb, hm o' z'] at e
        exact absurd ⟨o', l1', e.symm⟩ h4
    · rcases lv l' with z' | ⟨z', l1'⟩
      · subst z'; rw [hb, hm o z] at e
        exact absurd ⟨o, l1, e⟩ h4
      · rw [hm o z, hm o' z'] at e
        exact g.inj _ _ l1 l1' e
  · rw [hG]
    rcases lv l with z | ⟨z, l1⟩
    · subst z; rw [hb]; exact h3
    · rw [hm o z]; exact g.out o l1
  · exact (g.slot i sl e).stay ex fun so => ⟨hm _ (by intro z; cases z), rfl⟩
  · rcases old e with ⟨z, q⟩ | ⟨z, q⟩
    · refine (g.obj n ob z).stay ex (fun o l so => ⟨hm o ?_, rfl⟩) z
      intro z; subst z
      obtain ⟨ob', e', _⟩ := l
      have := (List.getElem?_eq_some_iff.mp e').1
      omega
    · subst z; subst q
      exact ⟨vs, by rw [hb]; exact h1, h2.ext ex⟩
  · rw [← hb]
    exact .box (by omega)
/-- a box's list is written -/
theorem mut_box {n : Nat} {ob ob' : Ob} {ho : HO} (e : st.S[n]? = some ob) (hl : ∃ ds, ob = .lst ds) (hl' : ∃ ds, ob' = .lst ds) (hr : st.ro = false) (f : Frm W0 st0 H0 W st H) (g : Good K ca W st σ H) (r : ObRel K ca W (upd H (W.m (.box n)) ho) n ob') :
    Frm W0 st0 H0 W { st with S := st.S.set n ob' } (upd H (W.m (.box n)) ho) ∧ Good K ca W { st with S := st.S.set n ob' } σ (upd H (W.m (.box n)) ho) := by
  obtain ⟨ds, rfl⟩ := hl
  obtain ⟨ds', rfl⟩ := hl'
  have lt : n < st.S.length := (List.getElem?_eq_some_iff.mp e).1
  have li : Live st (.box n) := ⟨_, e, by intro z; cases z⟩
  have old : ∀ {j : Nat} {o : Ob}, (st.S.set n (.lst ds'))[j]? = some o → (j = n ∧ o = .lst ds') ∨ (j ≠ n ∧ st.S[j]? = some o) := fun {j o} e => by
    by_cases q : n = j
    · subst q; rw [List.getElem?_set_self lt] at e; cases e; exact .inl ⟨rfl, rfl⟩
    · rw [List.getElem?_set_ne q] at e; exact .inr ⟨fun z => q z.symm, e⟩
  have lv : ∀ {o : Own}, Live { st with S := st.S.set n (.lst ds') } o → Live st o := fun {o} l => by
    cases o with
    | slot i => exact l
    | box j =>
      obtain ⟨o', e', d⟩ := l
      rcases old e' with ⟨z, _⟩ | ⟨_, z⟩
      · subst z; exact li
      · exact ⟨o', z, d⟩
    | dx j =>
      obtain ⟨c, fs, e'⟩ := l
      rcases old e' with ⟨_, z⟩ | ⟨_, z⟩
      · cases z
      · exact ⟨c, fs, z⟩
    | fld j x =>
      obtain ⟨c, fs, sl, e', q⟩ := l
      rcases old e' with ⟨_, z⟩ | ⟨_, z⟩
      · cases z
      · exact ⟨c, fs, sl, z, q⟩
  have ne : ∀ {o}, Live st o → o ≠ .box n → W.m o ≠ W.m (.box n) := fun l q z => q (g.inj _ _ l li z)
  have nr : st0.ro ≠ true := fun z => by rw [← f.ro, hr] at z; cases z
  refine ⟨⟨f.ext, fun a o h t => ?_, fun a h => ?_, fun a ⟨o, l, e⟩ => f.fresh a ⟨o, lv l, e⟩, f.gnew, f.ro, fun z => absurd z nr, fun z => absurd z nr⟩, ⟨fun b o h => ?_, fun o o' l l' => g.inj o o' (lv l) (lv l'), fun o l => g.out o (lv l), fun i sl e' => ?_, fun j o e' => ?_, g.len, by rw [g.nb]; simp, g.xa⟩⟩
  · have z : a ≠ W.m (.box n) := fun z => by
      rcases f.fresh _ ⟨_, li, rfl⟩ with q | q
      · exact t (z ▸ q)
      · rw [← z, h] at q; cases q
    rw [upd_ne z]
    exact f.keep a o h t
  · by_cases z : a = W.m (.box n)
    · rw [z, upd_same] at h; cases h
    · rw [upd_ne z] at h; exact f.dom a h
  · have z : b ≠ W.m (.box n) := fun z => by
      rw [z, g.out _ li] at h; cases h
    rw [upd_ne z]
    exact g.gh b o h
  · exact (g.slot i sl e').stay (.refl W) fun so => ⟨rfl, upd_ne (ne ⟨sl, e', so⟩ (by intro z; cases z))⟩
  · rcases old e' with ⟨z, q⟩ | ⟨z, q⟩
    · subst z; subst q; exact r
    · refine (g.obj j o q).stayJ (.refl W) (fun o' l so hj => ⟨rfl, upd_ne (ne l ?_)⟩) q
      intro y; subst y; exact z hj.symm
end
section
variable {ca : Ci} {ec : Nat → Addr} {wx : WX} {X : Cx} {Γ : Gm} {nm : Nm} {k : Nat} {calm : Bool} {sc : Scope}
theorem ok_mkbox {m : Sta → Res Hd} {e : Expr} (h : PE X e (tE X.K ca ec wx m)) : PE X e (tE X.K ca ec wx fun st => (m st).bind fun x st1 => (match x with
      | .new ds => .ok (.val (.box st1.S.length)) { st1 with S := st1.S ++ [.lst ds] }
      | _ => .stuck)) := h.imp fun σ H Q ⟨W, st, g, p⟩ => ⟨W, st, g, p.bind0.mono fun W1 st1 H1 x f1 g1 p1 v r1 => by
    cases x with
    | new ds =>
      obtain ⟨W2, f2, g2, r2⟩ := new_box f1 g1 r1
      exact p1 W2 H1 f2 g2 v r2
    | _ => exact p1.elim⟩
theorem ownF_of {st : Sta} {n c : Nat} {f : Str} {fs : List (Str × Sl)} {sl : Sl} (e : ownF st n f = some (c, fs, sl)) : st.ro = false ∧ st.S[n]? = some (.ins c fs) ∧ fs.lookup f = some sl := by
  unfold ownF at e
  split at e
  · cases e
  · rename_i hr
    split at e
    · rename_i c' fs' e1
      split at e
      · rename_i sl' e2
        cases e
        exact ⟨by simpa using hr, e1, e2⟩
      · cases e
    · cases e
theorem fldO_rel {K : PySem.W.Frag} {W : Wd} {st : Sta} {σ : L2.St} {H : Hp} {n c : Nat} {f : Str} {fs : List (Str × Sl)} {ds : List Dt} (g : Good K ca W st σ H) (e : st.S[n]? = some (.ins c fs)) (l : fs.lookup f = some (.own ds)) : ∃ vs, H (W.m (.fld n f)) = some (.lst vs) ∧ Reps K W vs ds := by
  obtain ⟨us, h1, h2, h3, nd⟩ := g.obj n _ e
  obtain ⟨v, lk, rv, _⟩ := h3.look l
  obtain ⟨_, vs, q1, q2⟩ := rv
  exact ⟨vs, q1, q2⟩
theorem fldD_rel {K : PySem.W.Frag} {W : Wd} {st : Sta} {σ : L2.St} {H : Hp} {n c : Nat} {f : Str} {fs : List (Str × Sl)} {kvs : List (Dt × Dt)} (g : Good K ca W st σ H) (e : st.S[n]? = some (.ins c fs)) (l : fs.lookup f = some (.ownd kvs)) : ∃ us, H (W.m (.fld n f)) = some (.dK us) ∧ KReps K W us kvs := by
  obtain ⟨us, h1, h2, h3, nd⟩ := g.obj n _ e
  obtain ⟨v, lk, rv, _⟩ := h3.look l
  obtain ⟨_, vs, q1, q2⟩ := rv
  exact ⟨vs, q1, q2⟩
theorem ok_app {a e : Sta → Res Hd} {l r : Expr} {ap p : Pos} (hl : (ap.endLine == p.line) = true) (ha : attrB l = true) (hs : starB r = true) (h : PE X l (tE X.K ca ec wx a)) (h' : PE X r (tE X.K ca ec wx e)) :
    PE X (.Call (.Attribute l "append" ap) [r] [] p) (tE X.K ca ec wx fun st => (a st).bind fun x st1 => if (lstOf st1 x).isSome then (behind x (fun s => (e s).dt) st1).bind fun d st2 => (match appD st2 x d with
      | some st3 => .ok (.val .non) st3
      | none => .stuck)
    else .stuck) := by
  refine (pe_bm PySem.F.plainAttrs_list PySem.F.slot_list_append PySem.F.type_list_append mt_append h (arg1 hs h') (attr_of ha) ?_ hl (star_of hs) (stars_none (es := []) rfl)).imp fun σ H Q ⟨W, st, g, p⟩ => ?_
  · rw [star_of hs]; rfl
  refine ⟨W, st, g, p.bind.mono fun W1 st1 H1 x f1 g1 p1 v r1 => ?_⟩
  cases hx : lstOf st1 x with
  | none => rw [hx] at p1; exact p1.elim
  | some ds0 =>
    rw [hx] at p1
    have p1 : Post X.K ca ec wx W1 st1 σ H1 ((behind x (fun s => (e s).dt) st1).bind fun d st2 => (match appD st2 x d with
      | some st3 => .ok (.val .non) st3
      | none => .stuck)) (PK_ X.K W st σ H Q) := p1
    obtain ⟨a0, vs0, rfl, _, h0⟩ := lst_rel g1 r1 hx
    obtain ⟨st1', g1', hb, p2⟩ := behind_run g1 r1 p1.bind
    refine ⟨.inl ⟨rfl, _, .inl (.inl h0)⟩, W1, st1', g1', (dt_run p2).mono fun W2 st2' H2 y f2 g2 p2 u r2 => ?_⟩
    obtain ⟨d, W3, f3, g3', rd, _, b, g3, f4', r1', p3⟩ := p2 u r2
    show rAppend (.ref a0) [u] H2 Q
    generalize st2'.setro b = st2 at g3 f4' r1' p3
    -- the list as it stands now
    cases x with
    | own i =>
      have p3 : Post X.K ca ec wx W3 st2 σ H2 (match (match st2.env[i]? with
        | some (.own ds) => if ds.length < sizeLine then some (st2.setE i (.own (ds ++ [d]))) else none
        | _ => none) with
        | some st3 => Res.ok (Hd.val .non) st3
        | none => .stuck) (PK_ X.K W st σ H Q) := p3
      have r1' : σ[i]? = some (some (.ref a0)) := r1'
      split at p3
      · rename_i st3 q
        split at q
        · rename_i ds e1
          split at q
          · rename_i hlt
            cases q
            obtain ⟨e2, vs, h1, t⟩ := g3.slot i _ e1
            rw [r1'] at e2
            have e3 : a0 = W3.m (.slot i) := by simpa using e2
            subst e3
            refine ⟨_, vs, u, rfl, rfl, h1, by rw [t.length]; exact hlt, ?_⟩
            obtain ⟨f4, g4⟩ := mut_slot (sl' := .own (ds ++ [d])) (ob := .lst (vs ++ [u])) e1 rfl rfl (.refl W3 st2 H2) g3 ⟨rfl, _, upd_same, t.append (.cons rd .nil)⟩
            exact p3 W3 _ f4 g4 _ .non
          · cases q
        · cases q
      · exact p3.elim
    | val dd =>
      cases dd with
      | box n =>
        have p3 : Post X.K ca ec wx W3 st2 σ H2 (match (if st2.ro then none else (match st2.S[n]? with
          | some (.lst ds) => if ds.length < sizeLine then some { st2 with S := st2.S.set n (.lst (ds ++ [d])) } else none
          | _ => none)) with
          | some st3 => Res.ok (Hd.val .non) st3
          | none => .stuck) (PK_ X.K W st σ H Q) := p3
        have r3 : Rep X.K W3 (.ref a0) (.box n) := r1'
        split at p3
        · rename_i st3 q
          split at q
          · cases q
          · rename_i hro
            split at q
            · rename_i ds e1
              split at q
              · rename_i hlt
                cases q
                obtain ⟨vs, h1, t⟩ := g3.obj n _ e1
                cases r3
                refine ⟨_, vs, u, rfl, rfl, h1, by rw [t.length]; exact hlt, ?_⟩
                obtain ⟨f4, g4⟩ := mut_box (ob' := .lst (ds ++ [d])) (ho := .lst (vs ++ [u])) e1 ⟨_, rfl⟩ ⟨_, rfl⟩ (by simpa using hro) (.refl W3 st2 H2) g3 ⟨_, upd_same, t.append (.cons rd .nil)⟩
                exact p3 W3 _ f4 g4 _ .non
              · cases q
            · cases q
        · exact p3.elim
      | _ => exact p3.elim
    | fld n f =>
      have p3 : Post X.K ca ec wx W3 st2 σ H2 (match (match ownF st2 n f with
        | some (c, fs, .own ds) => if ds.length < sizeLine then some (st2.setF n c fs f (.own (ds ++ [d]))) else none
        | _ => none) with
        | some st3 => Res.ok (Hd.val .non) st3
        | none => .stuck) (PK_ X.K W st σ H Q) := p3
      split at p3
      · rename_i st3 q
        split at q
        · rename_i c fs ds e0
          obtain ⟨hro, e1, e2⟩ := ownF_of e0
          split at q
          · rename_i hlt
            cases q
            obtain ⟨vs, h1, t⟩ := fldO_rel g3 e1 e2
            have ea : a0 = W3.m (.fld n f) := V.ref.inj r1'.1
            subst ea
            refine ⟨_, vs, u, rfl, rfl, h1, by rw [t.length]; exact hlt, ?_⟩
            obtain ⟨f4, g4⟩ := mut_fld (x := .own (ds ++ [d])) (ob := .lst (vs ++ [u])) e1 e2 rfl rfl hro (.refl W3 st2 H2) g3 ⟨rfl, _, upd_same, t.append (.cons rd .nil)⟩
            exact p3 W3 _ f4 g4 _ .non
          · cases q
        · cases q
      · exact p3.elim
    | _ => exact p3.elim
theorem ok_find {ma mb : Sta → Res Hd} {l r : Expr} {ap pos : Pos} (hl : (ap.endLine == pos.line) = true) (ha : attrB l = true) (hs : starB r = true) (h : PE X l (tE X.K ca ec wx ma)) (h' : PE X r (tE X.K ca ec wx mb)) :
    PE X (.Call (.Attribute l "find" ap) [r] [] pos) (tE X.K ca ec wx fun st => (ma st).bind fun x st1 => (match x with
    | .val (.str z) => (mb st1).bind fun y st2 => ofO st2 (findD (.val (.str z)) y)
    | _ => .stuck)) := by
  refine (pe_m1 PySem.F.slot_str_find PySem.F.type_str_find mt_find h h' (star_of hs) (attr_of ha) hl).imp fun σ H Q ⟨W, st, g, p⟩ => ?_
  refine ⟨W, st, g, p.bind.mono fun W1 st1 H1 x f1 g1 p1 v r1 => ?_⟩
  split at p1
  · rename_i z
    cases r1
    refine ⟨⟨z, rfl⟩, W1, st1, g1, p1.bind.mono fun W2 st2 H2 y f2 g2 p2 u r2 => ?_⟩
    cases y with
    | val d =>
      cases d with
      | str w =>
        cases r2
        exact ⟨_, _, rfl, rfl, p2 W2 H2 (.refl ..) g2 _ (.int _)⟩
      | _ => exact p2.elim
    | _ => exact p2.elim
  · exact p1.elim
theorem ok_pop {i : Nat} {x : Str} {me : Sta → Res Hd} {r : Expr} {xp ap pos : Pos} (C : Okc Γ nm ca ec k wx calm sc X) (hv : varB nm sc i x = true) (hl : (ap.endLine == pos.line) = true) (hs : starB r = true) (h' : PE X r (tE X.K ca ec wx me)) :
    PE X (.Call (.Attribute (.Name x xp) "pop" ap) [r] [] pos) (tE X.K ca ec wx fun st => (match st.env[i]? with
    | some (.own _) => (me st).bind fun y st1 => (match popD st1 i y with
      | some p => .ok (.val p.1) p.2
      | none => .stuck)
    | _ => .stuck)) := by
  refine (pe_bm PySem.F.plainAttrs_list PySem.F.slot_list_pop PySem.F.type_list_pop mt_popAt (pe_name C hv) (arg1 hs h') (attr_of rfl) ?_ hl (star_of hs) (stars_none (es := []) rfl)).imp fun σ H Q ⟨W, st, g, p⟩ => ?_
  · rw [star_of hs]; rfl
  have p : Post X.K ca ec wx W st σ H (match st.env[i]? with
    | some (.own _) => (me st).bind fun y st1 => (match popD st1 i y with
      | some p => Res.ok (Hd.val p.1) p.2
      | none => .stuck)
    | _ => .stuck) (PK_ X.K W st σ H Q) := p
  split at p
  · rename_i ds0 e0
    obtain ⟨e1, vs0, h0, _⟩ := g.slot i _ e0
    refine ⟨_, getE e1, .inl ⟨rfl, _, .inl (.inl h0)⟩, W, st, g, p.bind.mono fun W1 st1 H1 y f1 g1 p1 u r1 => ?_⟩
    show rPopAt (.ref (W.m (.slot i))) [u] H1 Q
    split at p1
    · rename_i pp q
      unfold popD at q
      split at q
      · rename_i k ds e2
        split at q
        · rename_i hb
          cases ej : ixN ds.length k with
          | none => rw [ej] at q; cases q
          | some j =>
            rw [ej] at q
            have q : (ds[j]?).map (fun d => (d, st1.setE i (.own (ds.eraseIdx j)))) = some pp := q
            cases ed : ds[j]? with
            | none => rw [ed] at q; cases q
            | some d =>
              rw [ed] at q
              cases q
              cases r1
              obtain ⟨e3, vs, h1, t⟩ := g1.slot i _ e2
              have e4 : W1.m (.slot i) = W.m (.slot i) := by
                rw [e1] at e3
                have e3 := Option.some.inj e3
                injection e3 with e3
                exact e3.symm
              obtain ⟨v, hv1, rv⟩ := t.get ed
              obtain ⟨s1, s2, _⟩ := ixN_seq ej
              rw [← e4]
              refine ⟨_, vs, k, j, v, rfl, rfl, h1, hb.1, hb.2, by rw [t.length]; exact s1, hv1, ?_⟩
              obtain ⟨f6, g6⟩ := mut_slot (sl' := .own (ds.eraseIdx j)) (ob := .lst (vs.eraseIdx j)) e2 rfl rfl (.refl W1 st1 H1) g1 ⟨rfl, _, upd_same, t.erase j⟩
              exact p1 W1 _ f6 g6 v rv
        · cases q
      · cases q
    · exact p1.elim
  · exact p.elim
theorem new_dct {W W0 : Wd} {st st0 : Sta} {σ : L2.St} {H H0 : Hp} {K : PySem.W.Frag} (f : Frm W0 st0 H0 W st H) (g : Good K ca W st σ H) {p : Addr} (hp : H p = none) {us : List (L2.Key × V)} {kvs : List (Dt × Dt)} (r : KReps K W us kvs) :
    Frm W0 st0 H0 W st (upd H p (.dK us)) ∧ Good K ca W st σ (upd H p (.dK us)) ∧ RepH K W0 st0 H0 W st σ (upd H p (.dK us)) (.ref p) (.newd kvs) := by
  have hG : W.G p = none := by
    cases q : W.G p with
    | none => rfl
    | some o => rw [g.gh p o q] at hp; cases hp
  exact ⟨f.alloc hp g, g.alloc hp, p, us, rfl, upd_same, r, hG, g.notT hp, .inl (f.dom p hp)⟩
theorem ok_dnew {pos : Pos} : PE X (.Dict [] [] pos) (tE X.K ca ec wx fun st => .ok (.newd []) st) :=
  pe_dnewK.imp fun σ H Q ⟨W, st, g, p⟩ => fun q hq => by
    obtain ⟨f2, g2, r2⟩ := new_dct (.refl W st H) g hq (kvs := []) .nil
    exact p W _ f2 g2 _ r2
theorem ok_dix {ma mb : Sta → Res Hd} {l r : Expr} {pos : Pos} (hu : X.A.units + 66 < cLine) (hx : ixB r = true) (h : PE X l (tE X.K ca ec wx ma)) (h' : PE X r (tE X.K ca ec wx mb)) :
    PE X (.Subscript l r pos) (tE X.K ca ec wx fun st => (ma st).bind fun x st1 => (behind x mb st1).bind fun y st2 => ofO st2 (dixD st2 x y)) := by
  refine (pe_dget (by omega) h h' (by intro ov iv; cases r <;> first | rfl | cases hx)).imp fun σ H Q ⟨W, st, g, p⟩ => ?_
  refine ⟨W, st, g, p.bind.mono fun W1 st1 H1 x f1 g1 p1 v r1 => ?_⟩
  obtain ⟨st1', g1', hb, p2⟩ := behind_run g1 r1 p1.bind
  refine ⟨W1, st1', g1', p2.mono fun W2 st2' H2 y f2 g2' hh u r2 => ?_⟩
  obtain ⟨b', g2, f2', r1', p3⟩ := hh
  have r2' := r2.setro (b := b') (b0 := st1'.ro)
  generalize st2'.setro b' = st2 at g2 f2' r1' r2' p3
  unfold dixD at p3
  split at p3
  · rename_i d kvs ek
    split at p3
    · rename_i hk
      obtain ⟨kk, hk⟩ := Option.isSome_iff_exists.mp hk
      obtain ⟨a, us, rfl, t, h1⟩ := kvs_rel g2 r1' ek
      obtain rfl := keyD_kV r2' hk
      rcases t.get hk with ⟨z, _⟩ | ⟨xx, w, z1, z2, rw_⟩
      · rw [z] at p3; exact p3.elim
      · rw [z1] at p3
        exact ⟨a, w, rfl, by rw [← z2]; exact DGet.k h1, p3 W2 H2 (.refl ..) g2 _ rw_⟩
    · exact p3.elim
  · exact p3.elim
theorem ok_din {b0 : Bool} {ma mb : Sta → Res Hd} {l r : Expr} (hu : X.A.units + 66 < cLine) (h : PE X l (tE X.K ca ec wx ma)) (h' : PE X r (tE X.K ca ec wx mb)) :
    PC X (if b0 then .In else .NotIn) l r (tE X.K ca ec wx fun st => (ma st).bind fun x st1 => (match x with
    | .val d => (mb st1).bind fun y st2 => ofO st2 (dinD b0 st2 d y)
    | _ => .stuck)) := by
  have key : ∀ {σ H Q}, tE X.K ca ec wx (fun st => (ma st).bind fun x st1 => (match x with
    | .val d => (mb st1).bind fun y st2 => ofO st2 (dinD b0 st2 d y)
    | _ => .stuck)) σ H Q → tE X.K ca ec wx ma σ H fun y H1 => tE X.K ca ec wx mb σ H1 fun x H2 => ∃ a o, x = .ref a ∧ DGet H2 a y o ∧ Q (.bl (if b0 then o.isSome else !o.isSome)) H2 := by
    rintro σ H Q ⟨W, st, g, p⟩
    refine ⟨W, st, g, p.bind.mono fun W1 st1 H1 x f1 g1 p1 v r1 => ?_⟩
    cases x with
    | val d =>
      refine ⟨W1, st1, g1, p1.bind.mono fun W2 st2 H2 y f2 g2 p2 u r2 => ?_⟩
      have r1 : Rep X.K W2 v d := Rep.ext f2.ext r1
      unfold dinD at p2
      split at p2
      · rename_i kvs ek
        split at p2
        · rename_i hk
          obtain ⟨kk, hk⟩ := Option.isSome_iff_exists.mp hk
          obtain ⟨a, us, rfl, t, h1⟩ := kvs_rel g2 r2 ek
          obtain rfl := keyD_kV r1 hk
          refine ⟨a, valV us kk, rfl, DGet.k h1, ?_⟩
          have e : (valV us kk).isSome = (dgetD kvs d).isSome := by
            rcases t.get hk with ⟨z1, z2⟩ | ⟨xx, w, z1, z2, _⟩
            · rw [z1, z2]; rfl
            · rw [z1, z2]; rfl
          rw [e]
          exact p2 W2 H2 (.refl ..) g2 _ (.bl _)
        · exact p2.elim
      · exact p2.elim
    | _ => exact p1.elim
  cases b0 with
  | true => exact ⟨fun pins s σ H Q I q => (pc_din (by omega) h h').run pins s σ H Q I (key q)⟩
  | false => exact ⟨fun pins s σ H Q I q => (pc_dnotin (by omega) h h').run pins s σ H Q I (key q)⟩
/-! ### targets -/
def Keep (is : List Nat) (σ σ' : L2.St) : Prop := σ'.length = σ.length ∧ ∀ j, j ∉ is → σ'[j]? = σ[j]?
theorem Keep.refl (is : List Nat) (σ : L2.St) : Keep is σ σ := ⟨rfl, fun _ _ => rfl⟩
theorem Keep.set {i : Nat} {is : List Nat} {σ : L2.St} {x : Option V} (h : i ∈ is) : Keep is σ (σ.set i x) := ⟨List.length_set .., fun j hj => List.getElem?_set_ne (fun (z : i = j) => hj (z ▸ h))⟩
theorem Keep.trans {is : List Nat} {σ σ1 σ2 : L2.St} (a : Keep is σ σ1) (b : Keep is σ1 σ2) : Keep is σ σ2 := ⟨b.1.trans a.1, fun j h => (b.2 j h).trans (a.2 j h)⟩
theorem Keep.mono {is js : List Nat} {σ σ' : L2.St} (h : ∀ i ∈ is, i ∈ js) (a : Keep is σ σ') : Keep js σ σ' := ⟨a.1, fun j hj => a.2 j fun z => hj (h j z)⟩
def Tg.slots : Tg → List Nat
  | .name i => [i]
  | .tup is => is
def tG (K : PySem.W.Frag) (ca : Ci) (t : Tg) : TG := fun v σ H Q => ∃ W st d st1, Good K ca W st σ H ∧ Rep K W v d ∧ t.set st d = some st1 ∧ ∀ W' σ', Keep t.slots σ σ' → Frm W st H W' st1 H → Good K ca W' st1 σ' H → Q σ' H
theorem _root_.L2.PG.imp {X : Cx} {e : Expr} {t t' : TG} (h : PG X e t) (i : ∀ v σ H Q, t' v σ H Q → t v σ H Q) : PG X e t' := ⟨fun pins s σ H v u Q I r q => h.run pins s σ H v u Q I r (i v σ H Q q)⟩
structure TgOk (nm : Nm) (sc : Scope) (X : Cx) : Prop where
  hN : X.N = nm.N
  nd : nm.N.Nodup
  calm : X.calm = true
  loc : ∀ x, locB sc x = true → Loc X.env.scope x ∧ (X.fn x = true ∨ X.env.scope.names.lookup x = some .local)
theorem tgs_ok (C : TgOk nm sc X) : ∀ (is : List Nat) (es : List Expr), tgB nm sc is es = true → PGs X es (fun vs σ H Q => ∃ W st ds st1, Good X.K ca W st σ H ∧ Reps X.K W vs ds ∧ setTup is ds st = some st1 ∧ ∀ W' σ', Keep is σ σ' → Frm W st H W' st1 H → Good X.K ca W' st1 σ' H → Q σ' H) ∧ (assignEach es X.env).length = is.length ∧ (assignEach es X.env).findIdx? (·.1) = none
  | [], [], _ => ⟨⟨fun pins s σ H vs us Q I r h => by
      obtain ⟨W, st, ds, st1, g, rs, e, q⟩ := h
      refine pgs_nil.run pins s σ H vs us Q I r ?_
      cases ds with
      | nil =>
        cases rs
        cases e
        exact ⟨rfl, q W σ (.refl ..) (.refl ..) g⟩
      | cons d ds => cases e⟩, rfl, rfl⟩
  | i :: is, .Name x p :: es, h => by
    unfold tgB at h
    simp only [Bool.and_eq_true, decide_eq_true_eq] at h
    obtain ⟨h1, h2, h3⟩ := h
    obtain ⟨l1, l2⟩ := C.loc x h2
    obtain ⟨ih, n1, n2⟩ := tgs_ok C is es h3
    refine ⟨⟨fun pins s σ H vs us Q I r h => ?_⟩, ?_, ?_⟩
    · obtain ⟨W, st, ds, st1, g, rs, e, q⟩ := h
      cases ds with
      | nil => cases e
      | cons d ds =>
        cases rs with
        | @cons v vs' _ _ rd rs =>
        have e : setTup is ds (st.setE i (.val d)) = some st1 := e
        refine (pgs_cons (pg_name (X := X) (pos := p) (by rw [C.hN]; exact C.nd) (by rw [C.hN]; exact h1) l1 l2) ih).run pins s σ H _ us Q I r ⟨v, vs', rfl, ?_⟩
        exact ⟨W, st.setE i (.val d), ds, st1, g.setV rfl ⟨v, rfl, rd⟩, rs, e, fun W' σ' kp f g' => q W' σ' ((Keep.set (List.mem_cons_self ..)).trans (kp.mono fun j hj => List.mem_cons_of_mem _ hj)) (((Frm.refl W st H).setV rfl).trans f) g'⟩
    · show (assignEach es X.env).length + 1 = is.length + 1
      rw [n1]
    · show (List.findIdx? (·.1) ((false, assign (.Name x p) X.env) :: assignEach es X.env)) = none
      rw [List.findIdx?_cons]
      simp only [Bool.false_eq_true, if_false]
      rw [n2]
      rfl
  | [], _ :: _, h => by simp [tgB] at h
  | _ :: _, [], h => by simp [tgB] at h
theorem tg_ok (C : TgOk nm sc X) {t : Tg} {e : Expr} (h : t.chk nm sc e = true) : PG X e (tG X.K ca t) := by
  unfold Tg.chk at h
  split at h
  · rename_i i x p
    simp only [Bool.and_eq_true, decide_eq_true_eq] at h
    obtain ⟨l1, l2⟩ := C.loc x h.2
    refine (pg_name (X := X) (pos := p) (by rw [C.hN]; exact C.nd) (by rw [C.hN]; exact h.1) l1 l2).imp fun v σ H Q ⟨W, st, d, st1, g, r, e, q⟩ => ?_
    cases e
    exact q W _ (Keep.set (by simp [Tg.slots])) ((Frm.refl W st H).setV rfl) (g.setV rfl ⟨v, rfl, r⟩)
  · rename_i is es kk p
    obtain ⟨h1, h2, h3⟩ := tgs_ok (ca := ca) C is es h
    refine (pg_tup (n := is.length) C.calm h1 h2 h3).imp fun v σ H Q ⟨W, st, d, st1, g, r, e, q⟩ => ?_
    cases d with
    | tup ds =>
      have e : setTup is ds st = some st1 := e
      cases r with
      | tup s t =>
      have hl : ∀ {is : List Nat} {ds : List Dt} {st st1 : Sta}, setTup is ds st = some st1 → ds.length = is.length := by
        intro is
        induction is with
        | nil => intro ds st st1 e; cases ds with
          | nil => rfl
          | cons d ds => cases e
        | cons i is ih => intro ds st st1 e; cases ds with
          | nil => cases e
          | cons d ds => exact congrArg (· + 1) (ih (show setTup is ds (st.setE i (.val d)) = some st1 from e))
      exact ⟨_, _, rfl, sameT g.gh s, by rw [t.length]; exact hl e, W, st, ds, st1, g, t, e, q⟩
    | _ => cases e
  · cases h
end
end EV
namespace EV
open PySem PySem.Spec PyProof.Rows L2
section
variable {ca : Ci} {ec : Nat → Addr} {wx : WX} {X : Cx} {Γ : Gm} {nm : Nm} {k : Nat} {calm : Bool} {sc : Scope}
/-! ### what is walked -/
def ItRel (K : PySem.W.Frag) (W : Wd) (st : Sta) (H : Hp) : Itv → L2.It → Prop
  | .rng lo n, J => J = Itr lo n
  | .seq h, J => ∃ a vs ds, Reps K W vs ds ∧ (((h = .val (.lst ds) ∨ h = .val (.slst ds)) ∧ SqL K W.G a vs ∧ J = Itl K a) ∨ (h = .val (.tup ds) ∧ SqT K W.G a vs ∧ J = Itt K a))
  | .enum ds, J => ∃ a vs, Reps K W vs ds ∧ SqL K W.G a vs ∧ J = Ite K a
  | .zip ds es, J => ∃ a vs b us, Reps K W vs ds ∧ SqL K W.G a vs ∧ Reps K W us es ∧ SqL K W.G b us ∧ J = Itz K a b
  | .str z, J => J = Its z
  | .seqR ds, J => ∃ o vs, Live st o ∧ o.sto = true ∧ H (W.m o) = some (.lst vs) ∧ Reps K W vs ds ∧ J = Itl K (W.m o)
  | .enumR ds, J => ∃ o vs, Live st o ∧ o.sto = true ∧ H (W.m o) = some (.lst vs) ∧ Reps K W vs ds ∧ J = Ite K (W.m o)
/-- a list of the store: where it stands -/
theorem live_rel {K : PySem.W.Frag} {W W0 : Wd} {st st0 : Sta} {σ : L2.St} {H H0 : Hp} {v : V} {x : Hd} {ds : List Dt} (g : Good K ca W st σ H) (r : RepH K W0 st0 H0 W st σ H v x) (e : liveOf st x = some ds) : ∃ o vs, Live st o ∧ o.sto = true ∧ H (W.m o) = some (.lst vs) ∧ Reps K W vs ds ∧ v = .ref (W.m o) := by
  unfold liveOf at e
  split at e
  · rename_i n
    obtain ⟨a, vs, rfl, t, h1⟩ := lst_rel g r e
    have r : Rep K W (.ref a) (.box n) := r
    have hl : ∃ ob, st.S[n]? = some ob ∧ ob ≠ .dead := by
      have e2 := lst_seq e
      have e2 : (match st.S[n]? with
        | some (.lst ds) => some (true, ds)
        | _ => none) = some (true, ds) := e2
      split at e2
      · rename_i ds' q; exact ⟨_, q, by intro z; cases z⟩
      · cases e2
    cases r
    exact ⟨.box n, vs, hl, rfl, h1, t, rfl⟩
  · rename_i n f
    obtain ⟨a, vs, rfl, t, h1⟩ := lst_rel g r e
    obtain ⟨ea, hl⟩ := r
    have ea := V.ref.inj ea
    subst ea
    exact ⟨.fld n f, vs, hl, rfl, h1, t, rfl⟩
  · cases e
def tI (K : PySem.W.Frag) (ca : Ci) (ec : Nat → Addr) (wx : WX) (m : Sta → Res Itv) : TI := fun σ H R => ∃ W st, Good K ca W st σ H ∧ Post K ca ec wx W st σ H (m st) fun W' st' H' v => ∀ J, ItRel K W' st' H' v J → R J H'
theorem _root_.L2.PI.imp {X : Cx} {tg e : Expr} {t t' : TI} (h : PI X tg e t) (i : ∀ σ H R, t' σ H R → t σ H R) : PI X tg e t' := ⟨fun pins s σ H R I q => h.run pins s σ H R I (i σ H R q)⟩
theorem pi_seq {tg l : Expr} {tl : TE} (hl : PE X l tl) : PI X tg l (fun σ H R => tl σ H fun x H1 => ∃ a, x = .ref a ∧ (((∃ xs, SqL X.K H1 a xs) ∧ R (Itl X.K a) H1) ∨ ((∃ xs, SqT X.K H1 a xs) ∧ R (Itt X.K a) H1))) := by
  refine ⟨fun pins s σ H R I h => ?_⟩
  refine thn (hl.run pins s σ H _ I h) fun v s1 ⟨x, H1, I1, r1, q1⟩ => ?_
  obtain ⟨a, e, q⟩ := q1
  subst e
  cases r1
  rcases q with ⟨⟨xs, hq⟩, q⟩ | ⟨⟨xs, hq⟩, q⟩
  · obtain ⟨its, rv, p, hz⟩ := I1.list hq
    refine wpAny_pyIter_list p.isList ?_
    refine ⟨s1.heap.objs.size, [s1.heap.objs.size], _, _, H1, rfl, I1.kept (t' := s1.toks) fun b o e => Heap.get?_push_of_some _ e, turn_list a _, ⟨_, Heap.get?_push_size _ rfl, rfl, rfl⟩, fun b hb => ?_, q⟩
    have e : b = s1.heap.objs.size := by simpa using hb
    subst e
    exact I1.fpOk (Nat.le_refl _) (I1.hok.fresh (Nat.le_refl _))
  · obtain ⟨its, rv, p, hz⟩ := I1.tuple hq
    refine wpAny_pyIter_tuple (show s1.heap.IsTuple a its.toArray from p) ?_
    refine ⟨s1.heap.objs.size, [s1.heap.objs.size], _, _, H1, rfl, I1.kept (t' := s1.toks) fun b o e => Heap.get?_push_of_some _ e, turn_tuple a _, ⟨_, Heap.get?_push_size _ rfl, rfl, rfl⟩, fun b hb => ?_, q⟩
    have e : b = s1.heap.objs.size := by simpa using hb
    subst e
    exact I1.fpOk (Nat.le_refl _) (I1.hok.fresh (Nat.le_refl _))
theorem ok_seq {m : Sta → Res Hd} {tg l : Expr} (h : PE X l (tE X.K ca ec wx m)) : PI X tg l (tI X.K ca ec wx fun st => (m st).bind fun x st1 => (match x with
    | .val (.lst ds) => .ok (.seq (.val (.lst ds))) st1
    | .val (.slst ds) => .ok (.seq (.val (.slst ds))) st1
    | .val (.tup ds) => .ok (.seq (.val (.tup ds))) st1
    | .new ds => .ok (.seq (.val (.lst ds))) st1
    | x => (match liveOf st1 x with
      | some ds => .ok (.seqR ds) st1
      | none => .stuck))) := (pi_seq h).imp fun σ H R ⟨W, st, g, p⟩ => ⟨W, st, g, p.bind0.mono fun W1 st1 H1 x f1 g1 p1 v r1 => by
  split at p1
  · rename_i ds
    cases r1 with
    | lst s t => exact ⟨_, rfl, .inl ⟨⟨_, SqL.of (g1.gh _ _ s)⟩, p1 W1 H1 f1 g1 _ ⟨_, _, ds, t, .inl ⟨.inl rfl, SqL.of s, rfl⟩⟩⟩⟩
  · rename_i ds
    cases r1 with
    | slst s t => exact ⟨_, rfl, .inl ⟨⟨_, g1.gh.seq s⟩, p1 W1 H1 f1 g1 _ ⟨_, _, ds, t, .inl ⟨.inr rfl, s, rfl⟩⟩⟩⟩
  · rename_i ds
    cases r1 with
    | tup s t => exact ⟨_, rfl, .inr ⟨⟨_, sameT g1.gh s⟩, p1 W1 H1 f1 g1 _ ⟨_, _, ds, t, .inr ⟨rfl, s, rfl⟩⟩⟩⟩
  · rename_i ds
    obtain ⟨q, vs, rfl, h1, h2, _⟩ := id r1
    obtain ⟨W2, f2, g2, r2, _⟩ := frz_new f1 g1 r1
    cases r2 with
    | lst s t => exact ⟨_, rfl, .inl ⟨⟨vs, SqL.of h1⟩, p1 W2 H1 f2 g2 _ ⟨_, _, ds, t, .inl ⟨.inl rfl, SqL.of s, rfl⟩⟩⟩⟩
  · split at p1
    · rename_i ds q
      obtain ⟨o, vs, l, so, h1, t, rfl⟩ := live_rel g1 r1 q
      exact ⟨_, rfl, .inl ⟨⟨vs, SqL.of h1⟩, p1 W1 H1 f1 g1 _ ⟨o, vs, l, so, h1, t, rfl⟩⟩⟩
    · exact p1.elim⟩
theorem ok_istr {m : Sta → Res Hd} {tg l : Expr} (h : PE X l (tE X.K ca ec wx m)) : PI X tg l (tI X.K ca ec wx fun st => (m st).bind fun x st1 => (match x with
    | .val (.str z) => .ok (.str z) st1
    | _ => .stuck)) := (pi_str h).imp fun σ H R ⟨W, st, g, p⟩ => ⟨W, st, g, p.bind.mono fun W1 st1 H1 x f1 g1 p1 v r1 => by
  split at p1
  · cases r1
    exact ⟨_, rfl, p1 W1 H1 (.refl ..) g1 _ rfl⟩
  · exact p1.elim⟩
theorem small_of {lo hi : Int} (h : smallR lo hi = true) : -(2 ^ 62) ≤ lo ∧ lo < 2 ^ 62 ∧ -(2 ^ 62) ≤ hi ∧ hi < 2 ^ 62 := by
  unfold smallR at h
  simp only [Bool.and_eq_true, decide_eq_true_eq] at h
  exact h
theorem ok_rng1 {m : Sta → Res Hd} {tg l : Expr} {p pos : Pos} (C : Okc Γ nm ca ec k wx calm sc X) (hx : glB sc "range" = true) (hs : starB l = true) (h : PE X l (tE X.K ca ec wx m)) :
    PI X tg (.Call (.Name "range" p) [l] [] pos) (tI X.K ca ec wx fun st => (m st).bind fun x st1 => (match x with
      | .val (.int j) => if smallR 0 j then .ok (.rng 0 j.toNat) st1 else .stuck
      | _ => .stuck)) :=
  (pi_range1 (gl_of C hx) (C.blt _ (by decide +kernel)) (arg1 hs h) (star_of hs)).imp fun σ H R ⟨W, st, g, p⟩ => ⟨W, st, g, p.bind.mono fun W1 st1 H1 x f1 g1 p1 v r1 => by
    split at p1
    · rename_i j
      by_cases hsm : smallR 0 j = true
      · rw [if_pos hsm] at p1
        obtain ⟨_, _, h3, h4⟩ := small_of hsm
        cases r1
        exact ⟨j, rfl, h3, h4, p1 W1 H1 (.refl ..) g1 _ rfl⟩
      · rw [if_neg hsm] at p1; exact p1.elim
    · exact p1.elim⟩
theorem ok_rng2 {a b : Sta → Res Hd} {tg l r : Expr} {p pos : Pos} (C : Okc Γ nm ca ec k wx calm sc X) (hx : glB sc "range" = true) (hs : starB l = true) (hs' : starB r = true) (h : PE X l (tE X.K ca ec wx a)) (h' : PE X r (tE X.K ca ec wx b)) :
    PI X tg (.Call (.Name "range" p) [l, r] [] pos) (tI X.K ca ec wx fun st => (a st).bind fun x st1 => (b st1).bind fun y st2 => (match x, y with
      | .val (.int i), .val (.int j) => if smallR i j then .ok (.rng i (j - i).toNat) st2 else .stuck
      | _, _ => .stuck)) :=
  (pi_range2 (gl_of C hx) (C.blt _ (by decide +kernel)) (arg2 hs hs' h h') (by rw [star_of hs, star_of hs']; rfl) (by rw [star_of hs']; rfl)).imp fun σ H R ⟨W, st, g, p⟩ => ⟨W, st, g, p.bind.mono fun W1 st1 H1 x f1 g1 p1 v r1 => by
    refine ⟨W1, st1, g1, p1.bind.mono fun W2 st2 H2 y f2 g2 p2 u r2 => ?_⟩
    split at p2
    · rename_i i j
      by_cases hsm : smallR i j = true
      · rw [if_pos hsm] at p2
        cases r1; cases r2
        exact ⟨i, j, rfl, small_of hsm, p2 W2 H2 (.refl ..) g2 _ rfl⟩
      · rw [if_neg hsm] at p2; exact p2.elim
    · exact p2.elim⟩
theorem ok_enum {m : Sta → Res Hd} {elts : List Expr} {kk : Nat} {tpos : Pos} {l : Expr} {p pos : Pos} (C : Okc Γ nm ca ec k wx calm sc X) (hx : glB sc "enumerate" = true) (hs : starB l = true) (h : PE X l (tE X.K ca ec wx m)) :
    PI X (.Tuple elts kk tpos) (.Call (.Name "enumerate" p) [l] [] pos) (tI X.K ca ec wx fun st => (m st).bind fun x st1 => (match lstV x, liveOf st1 x with
      | some ds, _ => .ok (.enum ds) st1
      | none, some ds => .ok (.enumR ds) st1
      | none, none => .stuck)) :=
  (pi_enum (gl_of C hx) (C.blt _ (by decide +kernel)) (arg1 hs h) (star_of hs)).imp fun σ H R ⟨W, st, g, p⟩ => ⟨W, st, g, p.bind0.mono fun W1 st1 H1 x f1 g1 p1 v r1 => by
    show ∃ a xs, [v] = [V.ref a] ∧ SqL X.K H1 a xs ∧ R (Ite X.K a) H1
    cases q : lstV x with
    | some ds =>
      rw [q] at p1
      unfold lstV at q
      split at q
      · cases q
        cases r1 with
        | lst s t => exact ⟨_, _, rfl, SqL.of (g1.gh _ _ s), p1 W1 H1 f1 g1 _ ⟨_, _, t, SqL.of s, rfl⟩⟩
      · cases q
        cases r1 with
        | slst s t => exact ⟨_, _, rfl, g1.gh.seq s, p1 W1 H1 f1 g1 _ ⟨_, _, t, s, rfl⟩⟩
      · cases q
        obtain ⟨q, vs, rfl, h1, h2, _⟩ := id r1
        obtain ⟨W2, f2, g2, r2, _⟩ := frz_new f1 g1 r1
        cases r2 with
        | lst s t => exact ⟨_, vs, rfl, SqL.of h1, p1 W2 H1 f2 g2 _ ⟨_, _, t, SqL.of s, rfl⟩⟩
      · cases q
    | none =>
      rw [q] at p1
      cases q2 : liveOf st1 x with
      | none => rw [q2] at p1; exact p1.elim
      | some ds =>
        rw [q2] at p1
        obtain ⟨o, vs, l, so, h1, t, rfl⟩ := live_rel g1 r1 q2
        exact ⟨_, vs, rfl, SqL.of h1, p1 W1 H1 f1 g1 _ ⟨o, vs, l, so, h1, t, rfl⟩⟩⟩
theorem lstW_rel {K : PySem.W.Frag} {W : Wd} {st : Sta} {σ : L2.St} {H : Hp} {v : V} {d : Dt} {ds : List Dt} (g : Good K ca W st σ H) (r : Rep K W v d) (e : lstW d = some ds) : ∃ a vs, v = .ref a ∧ Reps K W vs ds ∧ SqL K W.G a vs := by
  unfold lstW at e
  split at e
  · cases e
    cases r with
    | lst s t => exact ⟨_, _, rfl, t, SqL.of s⟩
  · cases e
    cases r with
    | slst s t => exact ⟨_, _, rfl, t, s⟩
  · cases e
theorem ok_zip {a b : Sta → Res Hd} {elts : List Expr} {kk : Nat} {tpos : Pos} {l r : Expr} {p pos : Pos} (C : Okc Γ nm ca ec k wx calm sc X) (hx : glB sc "zip" = true) (hs : starB l = true) (hs' : starB r = true) (h : PE X l (tE X.K ca ec wx a)) (h' : PE X r (tE X.K ca ec wx b)) :
    PI X (.Tuple elts kk tpos) (.Call (.Name "zip" p) [l, r] [] pos) (tI X.K ca ec wx fun st => (a st).dt.bind fun x st1 => (b st1).dt.bind fun y st2 => (match lstW x, lstW y with
      | some ds, some es => .ok (.zip ds es) st2
      | _, _ => .stuck)) :=
  (pi_zip (gl_of C hx) (C.blt _ (by decide +kernel)) (arg2 hs hs' h h') (star_of hs) (stars_none (es := [r]) (by simp [hs']))).imp fun σ H R ⟨W, st, g, p⟩ => ⟨W, st, g, (dt_run p.bind).mono fun W1 st1 H1 x f1 g1 p1 v r1 => by
    obtain ⟨d, W2, f2, g2, rd, _, p2⟩ := p1 v r1
    refine ⟨W2, st1, g2, (dt_run p2.bind).mono fun W3 st3 H3 y f3 g3 p3 u r3 => ?_⟩
    obtain ⟨e, W4, f4, g4, re, x4, p4⟩ := p3 u r3
    show ∃ a b xs ys, [v, u] = [V.ref a, V.ref b] ∧ SqL X.K H3 a xs ∧ SqL X.K H3 b ys ∧ R (Itz X.K a b) H3
    cases q1 : lstW d with
    | none => rw [q1] at p4; exact p4.elim
    | some ds =>
      cases q2 : lstW e with
      | none => rw [q1, q2] at p4; exact p4.elim
      | some es =>
        rw [q1, q2] at p4
        obtain ⟨a1, vs, rfl, t1, s1⟩ := lstW_rel g2 rd q1
        obtain ⟨a2, us, rfl, t2, s2⟩ := lstW_rel g4 re q2
        have x2 : Ext W2 W4 := f4.ext
        exact ⟨a1, a2, vs, us, rfl, g4.gh.seq (x2.g.seq s1), g4.gh.seq s2, p4 W4 H3 (.refl ..) g4 _ ⟨a1, vs, a2, us, t1.ext x2, x2.g.seq s1, t2, s2, rfl⟩⟩⟩
/-- one turn of what is walked -/
theorem turn_end {K : PySem.W.Frag} {W W' : Wd} {st0 st : Sta} {H0 H : Hp} {v : Itv} {J : L2.It} {i : Nat} (r : ItRel K W st0 H0 v J) (e : Ext W W') (hk : v.isRo = true → ∀ o, Live st0 o → o.sto = true → H (W.m o) = H0 (W.m o)) (gh : Same W'.G H) (h : v.at st i = some none) : J.stop i H := by
  cases v with
  | rng lo n =>
    cases r
    have h : some (if i < n then some (Dt.int (lo + i)) else none) = some none := h
    show n ≤ i
    by_cases q : i < n
    · rw [if_pos q] at h; cases h
    · omega
  | seq hd =>
    obtain ⟨a, vs, ds, t, z⟩ := r
    have hl : ds[i]? = none → vs.length ≤ i := fun q => by rw [t.length]; exact List.getElem?_eq_none_iff.mp q
    rcases z with ⟨rfl | rfl, s, rfl⟩ | ⟨rfl, s, rfl⟩
    · have h : some (ds[i]?) = some none := h
      exact ⟨vs, gh.seq (e.g.seq s), hl (Option.some.inj h)⟩
    · have h : some (ds[i]?) = some none := h
      exact ⟨vs, gh.seq (e.g.seq s), hl (Option.some.inj h)⟩
    · have h : some (ds[i]?) = some none := h
      exact ⟨vs, sameT gh (sameT e.g s), hl (Option.some.inj h)⟩
  | enum ds =>
    obtain ⟨a, vs, t, s, rfl⟩ := r
    have h : some (ds[i]?.map fun d => Dt.tup [.int i, d]) = some none := h
    have h2 : ds[i]? = none := by
      cases q : ds[i]? with
      | none => rfl
      | some d => rw [q] at h; cases h
    exact ⟨vs, gh.seq (e.g.seq s), by rw [t.length]; exact List.getElem?_eq_none_iff.mp h2⟩
  | zip ds es =>
    obtain ⟨a, vs, b, us, t, s, t2, s2, rfl⟩ := r
    have h : some (match ds[i]?, es[i]? with | some d, some e => some (Dt.tup [d, e]) | _, _ => none) = some none := h
    refine ⟨vs, us, gh.seq (e.g.seq s), gh.seq (e.g.seq s2), ?_⟩
    rw [t.length, t2.length]
    cases q : ds[i]? with
    | none => exact .inl (List.getElem?_eq_none_iff.mp q)
    | some d =>
      cases q2 : es[i]? with
      | none => exact .inr (List.getElem?_eq_none_iff.mp q2)
      | some d2 => rw [q, q2] at h; cases h
  | str z =>
    cases r
    have h : some (z.cps[i]?.map fun c => Dt.str ⟨#[c]⟩) = some none := h
    show z.cps.size ≤ i
    cases q : z.cps[i]? with
    | none => exact Array.getElem?_eq_none_iff.mp q
    | some c => rw [q] at h; cases h
  | seqR ds =>
    obtain ⟨o, vs, l, so, h1, t, rfl⟩ := r
    have hk := hk rfl o l so
    rw [h1] at hk
    have h : some (ds[i]?) = some none := h
    exact ⟨vs, SqL.of hk, by rw [t.length]; exact List.getElem?_eq_none_iff.mp (Option.some.inj h)⟩
  | enumR ds =>
    obtain ⟨o, vs, l, so, h1, t, rfl⟩ := r
    have hk := hk rfl o l so
    rw [h1] at hk
    have h : some (ds[i]?.map fun d => Dt.tup [.int i, d]) = some none := h
    have h2 : ds[i]? = none := by
      cases q : ds[i]? with
      | none => rfl
      | some d => rw [q] at h; cases h
    exact ⟨vs, SqL.of hk, by rw [t.length]; exact List.getElem?_eq_none_iff.mp h2⟩
/-- a new pair -/
theorem turn_pair {K : PySem.W.Frag} {ca : Ci} {W' : Wd} {st : Sta} {σ : L2.St} {H H' : Hp} {T : Addr} {x : V} {vs : List V} {ds : List Dt} (g : Good K ca W' st σ H) (hT : H T = none) (e : H' = upd H T (.tup vs)) (r : Reps K W' vs ds) (hx : x = .ref T) : ∃ W2, Frm W' st H W2 st H' ∧ Good K ca W2 st σ H' ∧ Rep K W2 x (.tup ds) := by
  subst e; subst hx
  obtain ⟨W2, f2, g2, r2, _⟩ := new_tup (.refl W' st H) g r hT
  exact ⟨W2, f2, g2, r2⟩
theorem turn_go {K : PySem.W.Frag} {W W' : Wd} {st0 st : Sta} {H0 H : Hp} {v : Itv} {J : L2.It} {i : Nat} {d : Dt} (r : ItRel K W st0 H0 v J) (e : Ext W W') (hk : v.isRo = true → ∀ o, Live st0 o → o.sto = true → H (W.m o) = H0 (W.m o)) (gh : Same W'.G H) (h : v.at st i = some (some d)) :
    J.go i H ∧ ∀ {ca : Ci} {st' : Sta} {σ : L2.St}, Good K ca W' st' σ H → ∀ x H', J.yld i H x H' → ∃ W2, Frm W' st' H W2 st' H' ∧ Good K ca W2 st' σ H' ∧ Rep K W2 x d := by
  suffices h2 : J.go i H ∧ ∀ {ca : Ci} {st' : Sta} {σ : L2.St}, Good K ca W' st' σ H → ∀ x H', J.yld i H x H' → (H' = H ∧ Rep K W' x d) ∨ ∃ W2, Frm W' st' H W2 st' H' ∧ Good K ca W2 st' σ H' ∧ Rep K W2 x d by
    refine ⟨h2.1, fun {ca st' σ} g x H' y => ?_⟩
    rcases h2.2 g x H' y with ⟨rfl, r⟩ | h3
    · exact ⟨W', .refl .., g, r⟩
    · exact h3
  cases v with
  | rng lo n =>
    cases r
    have h : some (if i < n then some (Dt.int (lo + i)) else none) = some (some d) := h
    by_cases q : i < n
    · rw [if_pos q] at h
      cases h
      exact ⟨q, fun _ x H' y => .inl ⟨y.1, by rw [y.2]; exact .int _⟩⟩
    · rw [if_neg q] at h; cases h
  | seq hd =>
    obtain ⟨a, vs, ds, t, z⟩ := r
    rcases z with ⟨rfl | rfl, s, rfl⟩ | ⟨rfl, s, rfl⟩
    · have h : some (ds[i]?) = some (some d) := h
      obtain ⟨x, e1, rx⟩ := t.get (Option.some.inj h)
      exact ⟨⟨vs, x, gh.seq (e.g.seq s), e1⟩, fun _ x' H' y => .inl ⟨y.1, by have := y.2 vs (gh.seq (e.g.seq s)); rw [e1] at this; cases this; exact rx.ext e⟩⟩
    · have h : some (ds[i]?) = some (some d) := h
      obtain ⟨x, e1, rx⟩ := t.get (Option.some.inj h)
      exact ⟨⟨vs, x, gh.seq (e.g.seq s), e1⟩, fun _ x' H' y => .inl ⟨y.1, by have := y.2 vs (gh.seq (e.g.seq s)); rw [e1] at this; cases this; exact rx.ext e⟩⟩
    · have h : some (ds[i]?) = some (some d) := h
      obtain ⟨x, e1, rx⟩ := t.get (Option.some.inj h)
      exact ⟨⟨vs, x, sameT gh (sameT e.g s), e1⟩, fun _ x' H' y => .inl ⟨y.1, by have := y.2 vs (sameT gh (sameT e.g s)); rw [e1] at this; cases this; exact rx.ext e⟩⟩
  | enum ds =>
    obtain ⟨a, vs, t, s, rfl⟩ := r
    have h : some (ds[i]?.map fun d => Dt.tup [.int i, d]) = some (some d) := h
    cases q : ds[i]? with
    | none => rw [q] at h; cases h
    | some d0 =>
      rw [q] at h; cases h
      obtain ⟨x, e1, rx⟩ := t.get q
      refine ⟨⟨vs, x, gh.seq (e.g.seq s), e1⟩, fun {ca st' σ} g x' H' y => .inr ?_⟩
      obtain ⟨T, x2, hx, hT, hH, hv⟩ := y
      have := hv vs (gh.seq (e.g.seq s))
      rw [e1] at this; cases this
      exact turn_pair g hT hH (.cons (.int _) (.cons (rx.ext e) .nil)) hx
  | zip ds es =>
    obtain ⟨a, vs, b, us, t, s, t2, s2, rfl⟩ := r
    have h : some (match ds[i]?, es[i]? with | some d, some e => some (Dt.tup [d, e]) | _, _ => none) = some (some d) := h
    cases q : ds[i]? with
    | none => rw [q] at h; cases h
    | some d0 =>
      cases q2 : es[i]? with
      | none => rw [q, q2] at h; cases h
      | some d1 =>
        rw [q, q2] at h; cases h
        obtain ⟨x, e1, rx⟩ := t.get q
        obtain ⟨x1, e2, rx1⟩ := t2.get q2
        refine ⟨⟨vs, us, x, x1, gh.seq (e.g.seq s), gh.seq (e.g.seq s2), e1, e2⟩, fun {ca st' σ} g x' H' y => .inr ?_⟩
        obtain ⟨T, x2, x3, hx, hT, hH, hv, hv2⟩ := y
        have h3 := hv vs (gh.seq (e.g.seq s))
        have h4 := hv2 us (gh.seq (e.g.seq s2))
        rw [e1] at h3; cases h3
        rw [e2] at h4; cases h4
        exact turn_pair g hT hH (.cons (rx.ext e) (.cons (rx1.ext e) .nil)) hx
  | str z =>
    cases r
    have h : some (z.cps[i]?.map fun c => Dt.str ⟨#[c]⟩) = some (some d) := h
    cases q : z.cps[i]? with
    | none => rw [q] at h; cases h
    | some c =>
      rw [q] at h; cases h
      refine ⟨(Array.getElem?_eq_some_iff.mp q).1, fun _ x' H' y => .inl ⟨y.1, ?_⟩⟩
      obtain ⟨c2, h1, rfl⟩ := y.2
      rw [q] at h1; cases h1
      exact .str _
  | seqR ds =>
    obtain ⟨o, vs, l, so, h1, t, rfl⟩ := r
    have hk := hk rfl o l so
    rw [h1] at hk
    have h : some (ds[i]?) = some (some d) := h
    obtain ⟨x, e1, rx⟩ := t.get (Option.some.inj h)
    exact ⟨⟨vs, x, SqL.of hk, e1⟩, fun _ x' H' y => .inl ⟨y.1, by have := y.2 vs (SqL.of hk); rw [e1] at this; cases this; exact rx.ext e⟩⟩
  | enumR ds =>
    obtain ⟨o, vs, l, so, h1, t, rfl⟩ := r
    have hk := hk rfl o l so
    rw [h1] at hk
    have h : some (ds[i]?.map fun d => Dt.tup [.int i, d]) = some (some d) := h
    cases q : ds[i]? with
    | none => rw [q] at h; cases h
    | some d0 =>
      rw [q] at h; cases h
      obtain ⟨x, e1, rx⟩ := t.get q
      refine ⟨⟨vs, x, SqL.of hk, e1⟩, fun {ca st' σ} g x' H' y => .inr ?_⟩
      obtain ⟨T, x2, hx, hT, hH, hv⟩ := y
      have := hv vs (SqL.of hk)
      rw [e1] at this; cases this
      exact turn_pair g hT hH (.cons (.int _) (.cons (rx.ext e) .nil)) hx
/-- the guard around a loop -/
theorem ItRel.setro {K : PySem.W.Frag} {W : Wd} {st : Sta} {H : Hp} {v : Itv} {J : L2.It} (b : Bool) (r : ItRel K W st H v J) : ItRel K W (st.setro b) H v J := by
  cases v with
  | seqR ds => obtain ⟨o, vs, l, z⟩ := r; exact ⟨o, vs, (by cases o <;> exact l), z⟩
  | enumR ds => obtain ⟨o, vs, l, z⟩ := r; exact ⟨o, vs, (by cases o <;> exact l), z⟩
  | _ => exact r
theorem frm_up {W W' : Wd} {st st' : Sta} {H H' : Hp} (fr : Frm W (st.setro true) H W' st' H') : Frm W st H W' (st'.setro st.ro) H' :=
  ⟨fr.ext, fr.keep, fr.dom, fr.fresh, fr.gnew, rfl, fun _ => fr.roS rfl, fun _ => fr.roM rfl⟩
theorem guard_run {α : Type} {K : PySem.W.Frag} {W : Wd} {st : Sta} {σ : L2.St} {H : Hp} {v : Itv} {J : L2.It} {m : Sta → Res α} {P : Wd → Sta → Hp → α → Prop} (g : Good K ca W st σ H) (r : ItRel K W st H v J) (h : Post K ca ec wx W st σ H (v.guard m st) P) :
    ∃ st1, (∃ b0, st1 = st.setro b0) ∧ Good K ca W st1 σ H ∧ ItRel K W st1 H v J ∧ (v.isRo = true → st1.ro = true) ∧ Post K ca ec wx W st1 σ H (m st1) fun W2 st2 H2 y => ∃ b, Good K ca W2 (st2.setro b) σ H2 ∧ Frm W st H W2 (st2.setro b) H2 ∧ P W2 (st2.setro b) H2 y := by
  unfold Itv.guard at h
  by_cases hv : v.isRo = true
  · rw [if_pos hv] at h
    refine ⟨st.setro true, ⟨true, rfl⟩, g.setro, r.setro true, fun _ => rfl, ?_⟩
    cases e : m (st.setro true) with
    | ok a st' => rw [e] at h; exact fun W' H' fr g' => ⟨st.ro, g'.setro, frm_up fr, h W' H' (frm_up fr) g'.setro⟩
    | exc c st' => rw [e] at h; exact fun W' H' fr g' => h W' H' (frm_up fr) g'.setro
    | stuck => rw [e] at h; exact h
  · rw [if_neg hv] at h
    refine ⟨st, ⟨st.ro, rfl⟩, g, r, fun z => absurd z hv, h.mono fun W' st' H' a fr g' p => ⟨st'.ro, g', fr, p⟩⟩
theorem guardS_run {α : Type} {K : PySem.W.Frag} {W : Wd} {st : Sta} {σ : L2.St} {H : Hp} {v : Itv} {J : L2.It} {m : Sta → Res α} {P : Wd → Sta → L2.St → Hp → α → Prop} (g : Good K ca W st σ H) (r : ItRel K W st H v J) (h : PostS K ca ec wx W st H (v.guard m st) P) :
    ∃ st1, (∃ b0, st1 = st.setro b0) ∧ Good K ca W st1 σ H ∧ ItRel K W st1 H v J ∧ (v.isRo = true → st1.ro = true) ∧ PostS K ca ec wx W st1 H (m st1) fun W2 st2 σ2 H2 y => ∃ b, Good K ca W2 (st2.setro b) σ2 H2 ∧ Frm W st H W2 (st2.setro b) H2 ∧ P W2 (st2.setro b) σ2 H2 y := by
  unfold Itv.guard at h
  by_cases hv : v.isRo = true
  · rw [if_pos hv] at h
    refine ⟨st.setro true, ⟨true, rfl⟩, g.setro, r.setro true, fun _ => rfl, ?_⟩
    cases e : m (st.setro true) with
    | ok a st' => rw [e] at h; exact fun W' σ' H' fr g' => ⟨st.ro, g'.setro, frm_up fr, h W' σ' H' (frm_up fr) g'.setro⟩
    | exc c st' => rw [e] at h; exact fun W' σ' H' fr g' => h W' σ' H' (frm_up fr) g'.setro
    | stuck => rw [e] at h; exact h
  · rw [if_neg hv] at h
    refine ⟨st, ⟨st.ro, rfl⟩, g, r, fun z => absurd z hv, h.mono fun W' st' σ' H' a fr g' p => ⟨st'.ro, g', fr, p⟩⟩
end
/-! ### a comprehension's own slots -/
section
variable {K : PySem.W.Frag} {ca : Ci} {W W' W0 : Wd} {st st' st0 : Sta} {σ : L2.St} {H H' H0 : Hp}
def Sta.wip (st : Sta) (own : List Nat) : Sta := { st with env := wipeE own st.env }
theorem wip_good (g : Good K ca W st σ H) : ∀ own : List Nat, Good K ca W (st.wip own) (wipe σ own) H
  | [] => g
  | i :: is => (wip_good g is).setV (i := i) (sl := .none) (x := none) rfl trivial
theorem wip_frm (f : Frm W0 st0 H0 W st H) : ∀ own : List Nat, Frm W0 st0 H0 W (st.wip own) H
  | [] => f
  | i :: is => (wip_frm f is).setV (i := i) (sl := .none) rfl
theorem wipe_get {σ : L2.St} {j : Nat} : ∀ {own : List Nat}, j ∈ own → j < σ.length → (wipe σ own)[j]? = some none
  | i :: is, h, lt => by
    show ((wipe σ is).set i none)[j]? = some none
    by_cases q : i = j
    · subst q; rw [List.getElem?_set_self (by rw [wipe_length]; exact lt)]
    · rw [List.getElem?_set_ne q]
      rcases List.mem_cons.mp h with z | z
      · exact absurd z.symm q
      · exact wipe_get z lt
theorem wipe_keep {own : List Nat} {σ σ' : L2.St} (h : Keep own σ σ') : wipe σ' own = wipe σ own := by
  refine List.ext_getElem? fun j => ?_
  by_cases q : j ∈ own
  · by_cases lt : j < σ.length
    · rw [wipe_get q lt, wipe_get q (by rw [h.1]; exact lt)]
    · rw [List.getElem?_eq_none (by rw [wipe_length, h.1]; omega), List.getElem?_eq_none (by rw [wipe_length]; omega)]
  · rw [wipe_out q, wipe_out q]
    exact h.2 j q
theorem wipe_wipe {own : List Nat} {σ : L2.St} : wipe (wipe σ own) own = wipe σ own := by
  refine wipe_keep ⟨wipe_length .., fun j hj => wipe_out hj⟩
theorem wipeE_length {env : List Sl} : ∀ own : List Nat, (wipeE own env).length = env.length
  | [] => rfl
  | i :: is => by show ((wipeE is env).set i .none).length = _; rw [List.length_set, wipeE_length is]
theorem putBack_length {old env : List Sl} : ∀ own : List Nat, (putBack own old env).length = env.length
  | [] => rfl
  | i :: is => by show ((putBack is old env).set i _).length = _; rw [List.length_set, putBack_length is]
theorem putBack_in {old env : List Sl} {j : Nat} : ∀ {own : List Nat}, j ∈ own → j < env.length → (putBack own old env)[j]? = some (old.getD j .none)
  | i :: is, h, lt => by
    show ((putBack is old env).set i (old.getD i .none))[j]? = _
    by_cases q : i = j
    · subst q; rw [List.getElem?_set_self (by rw [putBack_length]; exact lt)]
    · rw [List.getElem?_set_ne q]
      rcases List.mem_cons.mp h with z | z
      · exact absurd z.symm q
      · exact putBack_in z lt
theorem putBack_out {old env : List Sl} {j : Nat} : ∀ {own : List Nat}, j ∉ own → (putBack own old env)[j]? = env[j]?
  | [], _ => rfl
  | i :: is, h => by
    show ((putBack is old env).set i (old.getD i .none))[j]? = _
    have h' : ¬ j = i ∧ j ∉ is := by simpa using h
    rw [List.getElem?_set_ne (fun z : i = j => h'.1 z.symm)]
    exact putBack_out h'.2
theorem wipeE_in {env : List Sl} {j : Nat} : ∀ {own : List Nat}, j ∈ own → j < env.length → (wipeE own env)[j]? = some .none
  | i :: is, h, lt => by
    show ((wipeE is env).set i .none)[j]? = _
    by_cases q : i = j
    · subst q; rw [List.getElem?_set_self (by rw [wipeE_length]; exact lt)]
    · rw [List.getElem?_set_ne q]
      rcases List.mem_cons.mp h with z | z
      · exact absurd z.symm q
      · exact wipeE_in z lt
theorem wipeE_out {env : List Sl} {j : Nat} : ∀ {own : List Nat}, j ∉ own → (wipeE own env)[j]? = env[j]?
  | [], _ => rfl
  | i :: is, h => by
    show ((wipeE is env).set i .none)[j]? = _
    have h' : ¬ j = i ∧ j ∉ is := by simpa using h
    rw [List.getElem?_set_ne (fun z : i = j => h'.1 z.symm)]
    exact wipeE_out h'.2
/-- the slots are put back -/
theorem put_good {own : List Nat} (g0 : Good K ca W st σ H) (f : Frm W st H W' (st'.wip own) H') (g : Good K ca W' (st'.wip own) (wipe σ own) H') (hf : ownFree own st.env = true) :
    Frm W st H W' { st' with env := putBack own st.env st'.env } H' ∧ Good K ca W' { st' with env := putBack own st.env st'.env } σ H' ∧ (∀ a, Tt W' { st' with env := putBack own st.env st'.env } a → Tt W' (st'.wip own) a) := by
  have hlen : st'.env.length = st.env.length := by
    have h1 := g.len
    have h2 : (wipeE own st'.env).length = st'.env.length := wipeE_length own
    have h3 : (wipe σ own).length = (wipeE own st'.env).length := h1
    rw [wipe_length, h2, g0.len] at h3
    exact h3.symm
  have free : ∀ {j sl}, j ∈ own → st.env[j]? = some sl → sl.isOwn = false := fun {j sl} h e => by
    unfold ownFree at hf
    have := List.all_eq_true.mp hf j h
    rw [e] at this
    simpa using this
  have lv : ∀ {o : Own}, Live { st' with env := putBack own st.env st'.env } o → Live (st'.wip own) o := fun {o} l => by
    cases o with
    | slot j =>
      obtain ⟨sl, e, so⟩ := l
      have e : (putBack own st.env st'.env)[j]? = some sl := e
      have lt : j < st'.env.length := by have := (List.getElem?_eq_some_iff.mp e).1; rw [putBack_length] at this; exact this
      by_cases q : j ∈ own
      · rw [putBack_in q lt] at e
        cases e
        rw [hlen] at lt
        have e2 : st.env[j]? = some st.env[j] := List.getElem?_eq_getElem lt
        have := free q e2
        rw [show st.env.getD j .none = st.env[j] by simp [List.getD, e2]] at so
        rw [so] at this; cases this
      · rw [putBack_out q] at e
        exact ⟨sl, by show (wipeE own st'.env)[j]? = _; rw [wipeE_out q]; exact e, so⟩
    | box n => exact l
    | dx n => exact l
    | fld n x => exact l
  refine ⟨⟨f.ext, f.keep, f.dom, fun a ⟨o, l, e⟩ => f.fresh a ⟨o, lv l, e⟩, f.gnew, f.ro, f.roS, f.roM⟩, ⟨g.gh, fun o o' l l' => g.inj o o' (lv l) (lv l'), fun o l => g.out o (lv l), fun j sl e => ?_, g.obj, ?_, g.nb, g.xa⟩, fun a ⟨o, l, e⟩ => ⟨o, lv l, e⟩⟩
  · have e : (putBack own st.env st'.env)[j]? = some sl := e
    have lt : j < st'.env.length := by have := (List.getElem?_eq_some_iff.mp e).1; rw [putBack_length] at this; exact this
    by_cases q : j ∈ own
    · rw [putBack_in q lt] at e
      cases e
      rw [hlen] at lt
      have e2 : st.env[j]? = some st.env[j] := List.getElem?_eq_getElem lt
      rw [show st.env.getD j .none = st.env[j] by simp [List.getD, e2]]
      exact (g0.slot j _ e2).stay f.ext fun so => by rw [free q e2] at so; cases so
    · rw [putBack_out q] at e
      have z := g.slot j sl (by show (wipeE own st'.env)[j]? = _; rw [wipeE_out q]; exact e)
      rw [wipe_out q] at z
      exact z
  · show σ.length = (putBack own st.env st'.env).length
    rw [putBack_length, hlen]
    exact g0.len
/-- an object of nobody's is written -/
theorem Good.other {p : Addr} {o ob : HO} (g : Good K ca W st σ H) (hp : H p = some o) (hG : W.G p = none) (hT : ¬ Tt W st p) : Good K ca W st σ (upd H p ob) := by
  have ne : ∀ o, Live st o → W.m o ≠ p := fun o l e => hT ⟨o, l, e⟩
  refine ⟨fun b o' e => ?_, g.inj, g.out, fun i sl e => (g.slot i sl e).stay (.refl W) fun so => ⟨rfl, upd_ne (ne _ ⟨sl, e, so⟩)⟩, fun n ob e => (g.obj n ob e).stay (.refl W) (fun o l _ => ⟨rfl, upd_ne (ne o l)⟩) e, g.len, g.nb, g.xa⟩
  have z : b ≠ p := fun z => by rw [z, hG] at e; cases e
  rw [upd_ne z]
  exact g.gh b o' e
theorem Frm.other {p : Addr} {o ob : HO} (f : Frm W0 st0 H0 W st H) (h0 : H0 p = none) (hp : H p = some o) (hT : ¬ Tt W st p) : Frm W0 st0 H0 W st (upd H p ob) := by
  refine ⟨f.ext, fun a o' e t => ?_, fun a e => ?_, f.fresh, f.gnew, f.ro, f.roS, fun r o' so l => ?_⟩
  · have z : a ≠ p := fun z => by rw [z, h0] at e; cases e
    rw [upd_ne z]
    exact f.keep a o' e t
  · by_cases z : a = p
    · rw [z, upd_same] at e; cases e
    · rw [upd_ne z] at e; exact f.dom a e
  · obtain ⟨e1, e2⟩ := f.roM r o' so l
    refine ⟨e1, ?_⟩
    have z : W0.m o' ≠ p := fun z => hT ⟨o', live_mono (f.roS r) so l, by rw [e1]; exact z⟩
    rw [upd_ne z]
    exact e2
end
end EV
namespace EV
open PySem PySem.Spec PyProof.Rows L2
theorem dt_rep {K : PySem.W.Frag} {ca : Ci} {W W0 : Wd} {st st0 : Sta} {σ : L2.St} {H H0 : Hp} {v : V} {h : Hd} {d : Dt} (f : Frm W0 st0 H0 W st H) (g : Good K ca W st σ H) (r : RepH K W0 st0 H0 W st σ H v h) (e : h.dt = some d) :
    ∃ W2, Frm W0 st0 H0 W2 st H ∧ Good K ca W2 st σ H ∧ Rep K W2 v d ∧ Ext W W2 := by
  cases h with
  | val x => cases e; exact ⟨W, f, g, r, .refl _⟩
  | new ds => cases e; exact frz_new f g r
  | newd kvs => cases e
  | own i => cases e
  | fld n x => cases e
theorem loopC_eq (v : Itv) (own : List Nat) (tg : Tg) (cond : Sta → Res Bool) (elt : Sta → Res Dt) (n k : Nat) (acc : List Dt) (st : Sta) :
    loopC v own tg cond elt n k acc st = match v.at st k with
    | none => .stuck
    | some none => .ok acc st
    | some (some d) => (match n, tg.set (st.wip own) d with
      | n + 1, some st1 => (cond st1).bind fun b st2 => if b then (elt st2).bind fun x st3 => if acc.length < sizeLine then loopC v own tg cond elt n (k + 1) (acc ++ [x]) st3 else .stuck
        else loopC v own tg cond elt n (k + 1) acc st2
      | _, _ => .stuck) := by
  conv => lhs; unfold loopC
  rfl
theorem own2_map (nm : Nm) (own : List Nat) : (own2 nm own).map (·.2) = own := by
  unfold own2
  rw [List.map_map]
  exact List.map_id' own
section
variable {ca : Ci} {ec : Nat → Addr} {wx : WX} {X : Cx} {Γ : Gm} {nm : Nm} {k : Nat} {calm : Bool} {sc : Scope}
abbrev wx0 : WX := fun _ _ _ _ => False
/-- the context of a comprehension's block -/
theorem Okc.blk (C : Okc Γ nm ca ec k wx calm sc X) (hc : calm = true) {scope : Scope} {s : Shared} {H : Hp} {D : Addr} {cl : List (Str × Addr)} {fp : List Addr} (tk : Takes (X.blk s H scope (compEnvC scope cl D X.env) fp) wx0) :
    Okc Γ nm ca ec k wx0 calm (relS scope sc) (X.blk s H scope (compEnvC scope cl D X.env) fp) :=
  ⟨C.hN, C.nd, by rw [← C.hsc]; rfl, C.cl, C.hu, C.room, C.fns, C.gl, C.blt, tk, C.ex, C.xn, C.mth, C.cls, C.mkr, fun a d h => by rw [C.xn hc] at h; cases h⟩
theorem TgOk.blk (C : Okc Γ nm ca ec k wx calm sc X) (hc : calm = true) {scope : Scope} {s : Shared} {H : Hp} {D : Addr} {cl : List (Str × Addr)} {fp : List Addr} : TgOk nm scope (X.blk s H scope (compEnvC scope cl D X.env) fp) := by
  refine ⟨C.hN, C.nd, C.cl hc, fun x h => ?_⟩
  show Loc (relS scope X.env.scope) x ∧ ((scope.names.lookup x == some NameKind.cell) = true ∨ (relS scope X.env.scope).names.lookup x = some .local)
  unfold locB at h
  split at h
  · rename_i e
    have z := lookup_relS_keep (sc := X.env.scope) (by intro z; cases z) e
    exact ⟨.inl z, .inr z⟩
  · rename_i e
    have z := lookup_relS_keep (sc := X.env.scope) (by intro z; cases z) e
    exact ⟨.inr z, .inl (by rw [e]; rfl)⟩
  · cases h
theorem comp_of {own : List Nat} {tg : Tg} {mi : Sta → Res Itv} {mc : Sta → Res Bool} {me : Sta → Res Hd} (hw : tg.within own = true) {σ : L2.St} {H : Hp} {Q : VK}
    (hq : tE X.K ca ec wx (fun st => (mi st).bind fun v st1 => if ownFree own st1.env then v.guard (fun st0 =>
      (loopC v own tg (fun s => (mc s).noexc) (fun s => (me s).dt.noexc) (v.len st0) 0 [] st0).bind fun ds st2 => .ok (.new ds) { st2 with env := putBack own st0.env st2.env }) st1 else .stuck) σ H Q) : tLc (tI X.K ca ec wx mi) (tG X.K ca tg) (tT X.K ca ec wx0 mc) (tE X.K ca ec wx0 me) own σ H Q := by
  obtain ⟨W, st, g, p⟩ := hq
  refine ⟨W, st, g, p.bind.mono fun W1 st1 H1 v f1 g1 p1 J hJ D hD => ?_⟩
  have hf : ownFree own st1.env = true := by
    cases q : ownFree own st1.env with
    | true => rfl
    | false => rw [q, if_neg Bool.false_ne_true] at p1; exact p1.elim
  rw [if_pos hf] at p1
  obtain ⟨st0, ⟨b0, hb0⟩, g0, hJ0, hro, p1⟩ := guard_run g1 hJ p1
  have he0 : st0.env = st1.env := by rw [hb0]; rfl
  have hf0 : ownFree own st0.env = true := by rw [he0]; exact hf
  obtain ⟨PP, hPP⟩ : ∃ PP : Wd → Sta → Hp → Hd → Prop, PP = (fun W2 st2 H2 y => ∃ b, Good X.K ca W2 (st2.setro b) σ H2 ∧ Frm W1 st1 H1 W2 (st2.setro b) H2 ∧ PK_ X.K W st σ H Q W2 (st2.setro b) H2 y) := ⟨_, rfl⟩
  have p1 : Post X.K ca ec wx W1 st0 σ H1 ((loopC v own tg (fun s => (mc s).noexc) (fun s => (me s).dt.noexc) (v.len st0) 0 [] st0).bind fun ds st2 => .ok (.new ds) { st2 with env := putBack own st0.env st2.env }) PP := by rw [hPP]; exact p1
  have hGD : W1.G D = none := by
    cases q : W1.G D with
    | none => rfl
    | some o => rw [g0.gh D o q] at hD; cases hD
  refine ⟨fun j m H' => ∃ W' st' acc, Good X.K ca W' (st'.wip own) (wipe σ own) H' ∧ Frm W1 st0 H1 W' (st'.wip own) H' ∧ RepH X.K W1 st0 H1 W' (st'.wip own) (wipe σ own) H' (.ref D) (.new acc) ∧
      Post X.K ca ec wx W1 st0 σ H1 ((loopC v own tg (fun s => (mc s).noexc) (fun s => (me s).dt.noexc) m j acc st').bind fun ds st2 => .ok (.new ds) { st2 with env := putBack own st0.env st2.env }) PP,
    ⟨v.len st0, W1, st0, [], (wip_good g0 own).alloc hD, (wip_frm (.refl W1 st0 H1) own).alloc hD (wip_good g0 own), ⟨D, [], rfl, upd_same, .nil, hGD, (wip_good g0 own).notT hD, .inl hD⟩, p1⟩, ?_⟩
  rintro j m H' ⟨W', st', acc, g', f', r', p'⟩
  rw [loopC_eq] at p'
  split at p'
  · exact p'.elim
  · -- the end
    rename_i e
    refine .inl ⟨turn_end hJ0 f'.ext (fun z o l so => (f'.roM (hro z) o so l).2) g'.gh e, ?_⟩
    obtain ⟨f2, g2, ht⟩ := put_good g0 f' g' hf0
    have p' := p' W' H' f2 g2
    rw [hPP] at p'
    obtain ⟨bb, _, _, p'⟩ := p'
    refine p' _ (RepH.setro (b := bb) (b0 := st.ro) (st0 := st) ?_)
    obtain ⟨q, vs, eq, h1, h2, h3, h4, h5⟩ := r'
    cases eq
    exact ⟨D, vs, rfl, h1, h2, h3, fun z => h4 (ht _ z), .inl (f1.dom D hD)⟩
  · -- a turn
    rename_i d e
    split at p'
    · rename_i n s1 es
      obtain ⟨go, yl⟩ := turn_go hJ0 f'.ext (fun z o l so => (f'.roM (hro z) o so l).2) g'.gh e
      refine .inr ⟨go, _, fun H5 h5 => ⟨n, Nat.lt_succ_self n, h5⟩, fun x H'' y => ?_⟩
      obtain ⟨W6, f6, g6, rx⟩ := yl g' x H'' y
      have r' : RepH X.K W1 st0 H1 W6 (st'.wip own) (wipe σ own) H'' (.ref D) (.new acc) := r'.stay f6 (by intro z; cases z)
      have f' := f'.trans f6
      refine ⟨W6, st'.wip own, d, s1, g6, rx, es, fun W2 σ2 kp f2 g2 => ?_⟩
      have kw : wipe σ2 own = wipe σ own := by
        rw [wipe_keep (own := own) (σ := wipe σ own) (kp.mono fun i hi => ?_), wipe_wipe]
        cases tg with
        | name i0 => simp [Tg.slots] at hi; subst hi; simpa [Tg.within] using hw
        | tup is => simp [Tg.within] at hw; exact hw i hi
      refine ⟨kw, W2, s1, g2, ?_⟩
      -- the test
      cases ec1 : mc s1 with
      | stuck => rw [ec1] at p'; exact p'.elim
      | exc c s2 => rw [ec1] at p'; exact p'.elim
      | ok b s2 =>
        rw [ec1] at p'
        intro W3 H3 f3 g3
        have f13 : Frm W1 st0 H1 W3 s2 H3 := (f'.trans f2).trans f3
        have r3 : RepH X.K W1 st0 H1 W3 s2 σ2 H3 (.ref D) (.new acc) := RepH.stay (σ := σ2) (f2.trans f3) r' (by intro z; cases z)
        cases b with
        | false =>
          refine iteF ?_
          have p'' : Post X.K ca ec wx W1 st0 σ H1 ((loopC v own tg (fun s => (mc s).noexc) (fun s => (me s).dt.noexc) n (j + 1) acc s2).bind fun ds st2 => .ok (.new ds) { st2 with env := putBack own st0.env st2.env }) PP := p'
          refine ⟨W3, s2, acc, ?_, wip_frm f13 own, RepH.stay (σ := wipe σ own) (wip_frm (.refl W3 s2 H3) own) r3 (by intro z; cases z), p''⟩
          rw [← kw]
          exact wip_good g3 own
        | true =>
          refine iteT ?_
          refine ⟨W3, s2, g3, ?_⟩
          have p'' : Post X.K ca ec wx W1 st0 σ H1 (((me s2).dt.noexc.bind fun x st3 => if acc.length < sizeLine then loopC v own tg (fun s => (mc s).noexc) (fun s => (me s).dt.noexc) n (j + 1) (acc ++ [x]) st3 else .stuck).bind fun ds st2 => .ok (.new ds) { st2 with env := putBack own st0.env st2.env }) PP := p'
          cases ee : me s2 with
          | stuck => rw [ee] at p''; exact p''.elim
          | exc c s3 => rw [ee] at p''; exact p''.elim
          | ok h s3 =>
            rw [ee] at p''
            intro W4 H4 f4 g4 u ru
            cases ed : h.dt with
            | none =>
              have z : (Res.ok h s3).dt = .stuck := by show (match h.dt with | some d => Res.ok d s3 | none => .stuck) = _; rw [ed]
              rw [z] at p''; exact p''.elim
            | some x' =>
              have z : (Res.ok h s3).dt = .ok x' s3 := by show (match h.dt with | some d => Res.ok d s3 | none => .stuck) = _; rw [ed]
              rw [z] at p''
              by_cases hl : acc.length < sizeLine
              · have p3 : Post X.K ca ec wx W1 st0 σ H1 ((if acc.length < sizeLine then loopC v own tg (fun s => (mc s).noexc) (fun s => (me s).dt.noexc) n (j + 1) (acc ++ [x']) s3 else .stuck).bind fun ds st2 => .ok (.new ds) { st2 with env := putBack own st0.env st2.env }) PP := p''
                rw [if_pos hl] at p3
                obtain ⟨W5, f5, g5, r5, x5⟩ := dt_rep f4 g4 ru ed
                have rD : RepH X.K W1 st0 H1 W5 s3 σ2 H4 (.ref D) (.new acc) := r3.stay f5 (by intro z; cases z)
                obtain ⟨q, vs, eq, h1, h2, h3, h4, h5⟩ := rD
                cases eq
                have f15 : Frm W1 st0 H1 W5 s3 H4 := f13.trans f5
                refine ⟨vs, h1, by rw [h2.length]; exact hl, W5, s3, acc ++ [x'], ?_, ?_, ?_, p3⟩
                · rw [← kw]
                  exact wip_good (g5.other h1 h3 h4) own
                · exact wip_frm (f15.other hD h1 h4) own
                · refine ⟨D, vs ++ [u], rfl, upd_same, h2.append (.cons r5 .nil), h3, fun zt => ?_, .inl hD⟩
                  rcases (wip_frm (.refl W5 s3 H4) own).fresh D zt with y | y
                  · exact h4 y
                  · rw [h1] at y; cases y
              · have p3 : Post X.K ca ec wx W1 st0 σ H1 ((if acc.length < sizeLine then loopC v own tg (fun s => (mc s).noexc) (fun s => (me s).dt.noexc) n (j + 1) (acc ++ [x']) s3 else .stuck).bind fun ds st2 => .ok (.new ds) { st2 with env := putBack own st0.env st2.env }) PP := p''
                rw [if_neg hl] at p3
                exact p3.elim
    · exact p'.elim
theorem ok_comp {el t i : Expr} {ifs : List Expr} {scope : Scope} {pos : Pos} {own : List Nat} {tg : Tg} {mi : Sta → Res Itv} {mc : Sta → Res Bool} {me : Sta → Res Hd} (C : Okc Γ nm ca ec k wx calm sc X) (hc : calm = true)
    (hb : blkC nm.N sc scope (own2 nm own) = true) (hset : setB i = true) (hi : PI X t i (tI X.K ca ec wx mi)) (htg : tg.chk nm scope t = true) (hw : tg.within own = true)
    (hcnd : ∀ (s : Shared) (H : Hp) (D : Addr) (cl : List (Str × Addr)) (fp : List Addr), PTs (X.blk s H scope (compEnvC scope cl D X.env) fp) ifs (tT X.K ca ec wx0 mc))
    (helt : ∀ (s : Shared) (H : Hp) (D : Addr) (cl : List (Str × Addr)) (fp : List Addr), PE (X.blk s H scope (compEnvC scope cl D X.env) fp) el (tE X.K ca ec wx0 me)) :
    PE X (.ListComp el [⟨t, i, ifs, 0⟩] scope pos) (tE X.K ca ec wx fun st => (mi st).bind fun v st1 => if ownFree own st1.env then v.guard (fun st0 =>
      (loopC v own tg (fun s => (mc s).noexc) (fun s => (me s).dt.noexc) (v.len st0) 0 [] st0).bind fun ds st2 => .ok (.new ds) { st2 with env := putBack own st0.env st2.env }) st1 else .stuck) := by
  have ok : BlkOk X.N X.env.scope scope (own2 nm own) := blkOk_by (by rw [C.hN, C.hsc]; exact hb)
  refine (pe_lc (own := own2 nm own) (g := tG X.K ca tg) (tt := tT X.K ca ec wx0 mc) (te := tE X.K ca ec wx0 me) (C.cl hc) (by rw [C.hN]; exact C.nd) hi ok (fun s H D cl fp => tg_ok (X := X.blk s H scope (compEnvC scope cl D X.env) fp) (ca := ca) (TgOk.blk C hc) htg) hcnd helt (fold_of hset)).imp fun σ H Q q => ?_
  rw [own2_map]
  exact comp_of hw q
end
end EV
namespace EV
open PySem PySem.Spec PyProof.Rows L2
/-! comprehensions of two clauses -/
theorem loopC2_eq (v : Itv) (own : List Nat) (tg : Tg) (mi : Sta → Res Itv) (own1 : List Nat) (tg1 : Tg) (elt : Sta → Res Dt) (n k : Nat) (acc : List Dt) (st : Sta) :
    loopC2 v own tg mi own1 tg1 elt n k acc st = match v.at st k with
    | none => .stuck
    | some none => .ok acc st
    | some (some d) => (match n, tg.set (st.wip own) d with
      | n + 1, some st1 => (mi st1).bind fun w st2 => if w.isRo then .stuck else (loopC w own1 tg1 (fun s => .ok true s) elt (w.len st2) 0 acc st2).bind fun acc' st3 => loopC2 v own tg mi own1 tg1 elt n (k + 1) acc' st3
      | _, _ => .stuck) := by
  conv => lhs; unfold loopC2
  rfl
theorem wipe_sub {a b : List Nat} (h : ∀ i ∈ a, i ∈ b) (σ : L2.St) : wipe (wipe σ a) b = wipe σ b := by
  refine wipe_keep ?_
  refine Keep.mono h ?_
  clear h
  induction a with
  | nil => exact .refl _ _
  | cons i is ih => exact ((ih).mono fun j hj => List.mem_cons_of_mem _ hj).trans (Keep.set (List.mem_cons_self ..))
theorem wip_sub {a b : List Nat} (h : ∀ i ∈ a, i ∈ b) (st : Sta) : (st.wip a).wip b = st.wip b := by
  show Sta.mk (wipeE b (wipeE a st.env)) st.S st.ro = Sta.mk (wipeE b st.env) st.S st.ro
  congr 1
  apply List.ext_getElem?
  intro j
  by_cases hj : j ∈ b
  · by_cases lt : j < st.env.length
    · rw [wipeE_in hj (by rw [wipeE_length]; exact lt), wipeE_in hj lt]
    · rw [List.getElem?_eq_none (by rw [wipeE_length, wipeE_length]; omega), List.getElem?_eq_none (by rw [wipeE_length]; omega)]
  · rw [wipeE_out hj, wipeE_out hj, wipeE_out fun z => hj (h j z)]
section
variable {ca : Ci} {ec : Nat → Addr} {wx : WX} {X : Cx} {Γ : Gm} {nm : Nm} {k : Nat} {calm : Bool} {sc : Scope}
theorem comp2_of {own own1 : List Nat} {tg tg1 : Tg} {mi mi1 : Sta → Res Itv} {me : Sta → Res Hd} (hw : tg.within own = true) (hw1 : tg1.within own1 = true) (hs1 : ∀ i ∈ own1, i ∈ own) {σ : L2.St} {H : Hp} {Q : VK}
    (hq : tE X.K ca ec wx (fun st => (mi st).bind fun v st1 => if ownFree own st1.env && !v.isRo then
      (loopC2 v own tg (fun s => (mi1 s).noexc) own1 tg1 (fun s => (me s).dt.noexc) (v.len st1) 0 [] st1).bind fun ds st2 => .ok (.new ds) { st2 with env := putBack own st1.env st2.env } else .stuck) σ H Q) :
    tLc2 (tI X.K ca ec wx mi) (tG X.K ca tg) (fun _ H Q => Q true H) (tI X.K ca ec wx0 mi1) (tG X.K ca tg1) (fun _ H Q => Q true H) (tE X.K ca ec wx0 me) own own1 σ H Q := by
  obtain ⟨W, st, g, p⟩ := hq
  refine ⟨W, st, g, p.bind.mono fun W1 st1 H1 v f1 g1 p1 J hJ D hD => ?_⟩
  have hf : (ownFree own st1.env && !v.isRo) = true := by
    cases q : (ownFree own st1.env && !v.isRo) with
    | true => rfl
    | false => rw [q, if_neg Bool.false_ne_true] at p1; exact p1.elim
  rw [if_pos hf] at p1
  obtain ⟨hf, hro⟩ := Bool.and_eq_true_iff.mp hf
  have hkp : ∀ {H : Hp}, v.isRo = true → ∀ o, Live st1 o → o.sto = true → H (W1.m o) = H1 (W1.m o) := fun {H} z => by rw [z] at hro; cases hro
  have hGD : W1.G D = none := by
    cases q : W1.G D with
    | none => rfl
    | some o => rw [g1.gh D o q] at hD; cases hD
  obtain ⟨PP, hPP⟩ : ∃ PP : Wd → Sta → Hp → Hd → Prop, PP = PK_ X.K W st σ H Q := ⟨_, rfl⟩
  have p1 : Post X.K ca ec wx W1 st1 σ H1 ((loopC2 v own tg (fun s => (mi1 s).noexc) own1 tg1 (fun s => (me s).dt.noexc) (v.len st1) 0 [] st1).bind fun ds st2 => .ok (.new ds) { st2 with env := putBack own st1.env st2.env }) PP := by rw [hPP]; exact p1
  refine ⟨fun j m H' => ∃ W' st' acc, Good X.K ca W' (st'.wip own) (wipe σ own) H' ∧ Frm W1 st1 H1 W' (st'.wip own) H' ∧ RepH X.K W1 st1 H1 W' (st'.wip own) (wipe σ own) H' (.ref D) (.new acc) ∧
      Post X.K ca ec wx W1 st1 σ H1 ((loopC2 v own tg (fun s => (mi1 s).noexc) own1 tg1 (fun s => (me s).dt.noexc) m j acc st').bind fun ds st2 => .ok (.new ds) { st2 with env := putBack own st1.env st2.env }) PP,
    ⟨v.len st1, W1, st1, [], (wip_good g1 own).alloc hD, (wip_frm (.refl W1 st1 H1) own).alloc hD (wip_good g1 own), ⟨D, [], rfl, upd_same, .nil, hGD, (wip_good g1 own).notT hD, .inl hD⟩, p1⟩, ?_⟩
  rintro j m H' ⟨W', st', acc, g', f', r', p'⟩
  rw [loopC2_eq] at p'
  split at p'
  · exact p'.elim
  · -- the end
    rename_i e
    refine .inl ⟨turn_end hJ f'.ext hkp g'.gh e, ?_⟩
    obtain ⟨f2, g2, ht⟩ := put_good g1 f' g' hf
    have p' := p' W' H' f2 g2
    rw [hPP] at p'
    refine p' _ ?_
    obtain ⟨q, vs, eq, h1, h2, h3, h4, h5⟩ := r'
    cases eq
    exact ⟨D, vs, rfl, h1, h2, h3, fun z => h4 (ht _ z), .inl (f1.dom D hD)⟩
  · -- a turn
    rename_i d e
    split at p'
    · rename_i n s1 es
      obtain ⟨go, yl⟩ := turn_go hJ f'.ext hkp g'.gh e
      refine .inr ⟨go, _, fun H5 h5 => ⟨n, Nat.lt_succ_self n, h5⟩, fun x H'' y => ?_⟩
      obtain ⟨W6, f6, g6, rx⟩ := yl g' x H'' y
      have r' : RepH X.K W1 st1 H1 W6 (st'.wip own) (wipe σ own) H'' (.ref D) (.new acc) := r'.stay f6 (by intro z; cases z)
      have f' := f'.trans f6
      refine ⟨W6, st'.wip own, d, s1, g6, rx, es, fun W2 σ2 kp f2 g2 => ?_⟩
      have kw : wipe σ2 own = wipe σ own := by
        rw [wipe_keep (own := own) (σ := wipe σ own) (kp.mono fun i hi => ?_), wipe_wipe]
        cases tg with
        | name i0 => simp [Tg.slots] at hi; subst hi; simpa [Tg.within] using hw
        | tup is => simp [Tg.within] at hw; exact hw i hi
      refine ⟨kw, iteT ?_⟩
      refine ⟨W2, s1, g2, ?_⟩
      cases ew : mi1 s1 with
      | stuck => rw [ew] at p'; exact p'.elim
      | exc c s2 => rw [ew] at p'; exact p'.elim
      | ok w s2 =>
        rw [ew] at p'
        have p' : Post X.K ca ec wx W1 st1 σ H1 ((if w.isRo then Res.stuck else (loopC w own1 tg1 (fun s => .ok true s) (fun s => (me s).dt.noexc) (w.len s2) 0 acc s2).bind fun acc' st3 => loopC2 v own tg (fun s => (mi1 s).noexc) own1 tg1 (fun s => (me s).dt.noexc) n (j + 1) acc' st3).bind fun ds st2 => .ok (.new ds) { st2 with env := putBack own st1.env st2.env }) PP := p'
        intro W3 H3 f3 g3 J1 hJ1
        have f13 : Frm W1 st1 H1 W3 s2 H3 := (f'.trans f2).trans f3
        have r3 : RepH X.K W1 st1 H1 W3 s2 σ2 H3 (.ref D) (.new acc) := RepH.stay (σ := σ2) (f2.trans f3) r' (by intro z; cases z)
        by_cases hr1 : w.isRo = true
        · rw [if_pos hr1] at p'; exact p'.elim
        rw [if_neg hr1] at p'
        have hkp1 : ∀ {H : Hp}, w.isRo = true → ∀ o, Live s2 o → o.sto = true → H (W3.m o) = H3 (W3.m o) := fun {H} z => absurd z hr1
        refine ⟨fun jj mm H' => ∃ W' st' acc, Good X.K ca W' (st'.wip own1) (wipe σ2 own1) H' ∧ Frm W1 st1 H1 W' (st'.wip own1) H' ∧ Ext W3 W' ∧ RepH X.K W1 st1 H1 W' (st'.wip own1) (wipe σ2 own1) H' (.ref D) (.new acc) ∧
            Post X.K ca ec wx W1 st1 σ H1 (((loopC w own1 tg1 (fun s => .ok true s) (fun s => (me s).dt.noexc) mm jj acc st').bind fun acc' st3 => loopC2 v own tg (fun s => (mi1 s).noexc) own1 tg1 (fun s => (me s).dt.noexc) n (j + 1) acc' st3).bind fun ds st2 => .ok (.new ds) { st2 with env := putBack own st1.env st2.env }) PP,
          ⟨w.len s2, W3, s2, acc, wip_good g3 own1, wip_frm f13 own1, .refl W3, RepH.stay (σ := wipe σ2 own1) (wip_frm (.refl W3 s2 H3) own1) r3 (by intro z; cases z), p'⟩, ?_⟩
        rintro jj mm H4 ⟨W4, st4, acc4, g4, f4, f34, r4, p4⟩
        rw [loopC_eq] at p4
        split at p4
        · exact p4.elim
        · -- the inner end
          rename_i e4
          refine .inl ⟨turn_end hJ1 f34 hkp1 g4.gh e4, W4, st4, acc4, ?_, ?_, ?_, p4⟩
          · have z := wip_good g4 own
            rw [wip_sub hs1, wipe_sub hs1, kw] at z
            exact z
          · have z := wip_frm f4 own
            rw [wip_sub hs1] at z
            exact z
          · have z := RepH.stay (h := .new acc4) (σ := wipe σ own) (wip_frm (.refl W4 (st4.wip own1) H4) own) r4 (by intro z; cases z)
            rw [wip_sub hs1] at z
            exact z
        · -- an inner turn
          rename_i d4 e4
          split at p4
          · rename_i n4 s5 es4
            obtain ⟨go, yl⟩ := turn_go hJ1 f34 hkp1 g4.gh e4
            refine .inr ⟨go, _, fun H5 h5 => ⟨n4, Nat.lt_succ_self n4, h5⟩, fun x5 H5 y5 => ?_⟩
            obtain ⟨W6', f6', g6', rx'⟩ := yl g4 x5 H5 y5
            have r4 : RepH X.K W1 st1 H1 W6' (st4.wip own1) (wipe σ2 own1) H5 (.ref D) (.new acc4) := r4.stay f6' (by intro z; cases z)
            have f4 := f4.trans f6'
            have f34 := f34.trans f6'.ext
            refine ⟨W6', st4.wip own1, d4, s5, g6', rx', es4, fun W7 σ3 kp f7 g7 => ?_⟩
            have kw1 : wipe σ3 own1 = wipe σ2 own1 := by
              rw [wipe_keep (own := own1) (σ := wipe σ2 own1) (kp.mono fun i hi => ?_), wipe_wipe]
              cases tg1 with
              | name i0 => simp [Tg.slots] at hi; subst hi; simpa [Tg.within] using hw1
              | tup is => simp [Tg.within] at hw1; exact hw1 i hi
            refine ⟨kw1, iteT ?_⟩
            refine ⟨W7, s5, g7, ?_⟩
            have r7 : RepH X.K W1 st1 H1 W7 s5 σ3 _ (.ref D) (.new acc4) := RepH.stay (h := .new acc4) (σ := σ3) f7 r4 (by intro z; cases z)
            have f17 := f4.trans f7
            have f37 := f34.trans f7.ext
            have p'' : Post X.K ca ec wx W1 st1 σ H1 ((((me s5).dt.noexc.bind fun x st3 => if acc4.length < sizeLine then loopC w own1 tg1 (fun s => .ok true s) (fun s => (me s).dt.noexc) n4 (jj + 1) (acc4 ++ [x]) st3 else .stuck).bind fun acc' st3 => loopC2 v own tg (fun s => (mi1 s).noexc) own1 tg1 (fun s => (me s).dt.noexc) n (j + 1) acc' st3).bind fun ds st2 => .ok (.new ds) { st2 with env := putBack own st1.env st2.env }) PP := p4
            cases ee : me s5 with
            | stuck => rw [ee] at p''; exact p''.elim
            | exc c s3 => rw [ee] at p''; exact p''.elim
            | ok h s3 =>
              rw [ee] at p''
              intro W8 H8 f8 g8 u ru
              cases ed : h.dt with
              | none =>
                have z : (Res.ok h s3).dt = .stuck := by show (match h.dt with | some d => Res.ok d s3 | none => .stuck) = _; rw [ed]
                rw [z] at p''; exact p''.elim
              | some x' =>
                have z : (Res.ok h s3).dt = .ok x' s3 := by show (match h.dt with | some d => Res.ok d s3 | none => .stuck) = _; rw [ed]
                rw [z] at p''
                have p3 : Post X.K ca ec wx W1 st1 σ H1 (((if acc4.length < sizeLine then loopC w own1 tg1 (fun s => .ok true s) (fun s => (me s).dt.noexc) n4 (jj + 1) (acc4 ++ [x']) s3 else .stuck).bind fun acc' st3 => loopC2 v own tg (fun s => (mi1 s).noexc) own1 tg1 (fun s => (me s).dt.noexc) n (j + 1) acc' st3).bind fun ds st2 => .ok (.new ds) { st2 with env := putBack own st1.env st2.env }) PP := p''
                by_cases hl : acc4.length < sizeLine
                · rw [if_pos hl] at p3
                  obtain ⟨W5, f5, g5, r5, x5'⟩ := dt_rep f8 g8 ru ed
                  have rD : RepH X.K W1 st1 H1 W5 s3 σ3 H8 (.ref D) (.new acc4) := r7.stay f5 (by intro z; cases z)
                  obtain ⟨q, vs, eq, h1, h2, h3, h4, h5⟩ := rD
                  cases eq
                  have f15 : Frm W1 st1 H1 W5 s3 H8 := f17.trans f5
                  have f35 : Ext W3 W5 := f37.trans f5.ext
                  refine ⟨vs, h1, by rw [h2.length]; exact hl, W5, s3, acc4 ++ [x'], ?_, ?_, ?_, ?_, p3⟩
                  · rw [← kw1]
                    exact wip_good (g5.other h1 h3 h4) own1
                  · exact wip_frm (f15.other hD h1 h4) own1
                  · exact f35
                  · refine ⟨D, vs ++ [u], rfl, upd_same, h2.append (.cons r5 .nil), h3, fun zt => ?_, .inl hD⟩
                    rcases (wip_frm (.refl W5 s3 H8) own1).fresh D zt with y | y
                    · exact h4 y
                    · rw [h1] at y; cases y
                · rw [if_neg hl] at p3
                  exact p3.elim
          · exact p4.elim
    · exact p'.elim
theorem ok_comp2 {el t i t1 i1 : Expr} {scope : Scope} {pos : Pos} {own own1 : List Nat} {tg tg1 : Tg} {mi mi1 : Sta → Res Itv} {me : Sta → Res Hd} (C : Okc Γ nm ca ec k wx calm sc X) (hc : calm = true)
    (hb : blkC nm.N sc scope (own2 nm own) = true) (hset : setB i = true) (hset1 : setB i1 = true) (hi : PI X t i (tI X.K ca ec wx mi)) (htg : tg.chk nm scope t = true) (htg1 : tg1.chk nm scope t1 = true) (hw : tg.within own = true) (hw1 : tg1.within own1 = true) (hs1 : (own1.all fun i => decide (i ∈ own)) = true)
    (hi1 : ∀ (s : Shared) (H : Hp) (D : Addr) (cl : List (Str × Addr)) (fp : List Addr), PI (X.blk s H scope (compEnvC scope cl D X.env) fp) t1 i1 (tI X.K ca ec wx0 mi1))
    (helt : ∀ (s : Shared) (H : Hp) (D : Addr) (cl : List (Str × Addr)) (fp : List Addr), PE (X.blk s H scope (compEnvC scope cl D X.env) fp) el (tE X.K ca ec wx0 me)) :
    PE X (.ListComp el [⟨t, i, [], 0⟩, ⟨t1, i1, [], 0⟩] scope pos) (tE X.K ca ec wx fun st => (mi st).bind fun v st1 => if ownFree own st1.env && !v.isRo then
      (loopC2 v own tg (fun s => (mi1 s).noexc) own1 tg1 (fun s => (me s).dt.noexc) (v.len st1) 0 [] st1).bind fun ds st2 => .ok (.new ds) { st2 with env := putBack own st1.env st2.env } else .stuck) := by
  have ok : BlkOk X.N X.env.scope scope (own2 nm own) := blkOk_by (by rw [C.hN, C.hsc]; exact hb)
  have hs2 : ∀ i ∈ own1, i ∈ own := fun i hi => of_decide_eq_true (List.all_eq_true.mp hs1 i hi)
  refine (pe_lc2 (own := own2 nm own) (vs1 := own1) (g := tG X.K ca tg) (g1 := tG X.K ca tg1) (tt := fun _ H Q => Q true H) (tt1 := fun _ H Q => Q true H) (te := tE X.K ca ec wx0 me) (C.cl hc) (by rw [C.hN]; exact C.nd) hi ok (by rw [own2_map]; exact hs2)
    (fun s H D cl fp => tg_ok (X := X.blk s H scope (compEnvC scope cl D X.env) fp) (ca := ca) (TgOk.blk C hc) htg) (fun s H D cl fp => pts_nil) hi1 (fun s H D cl fp => tg_ok (X := X.blk s H scope (compEnvC scope cl D X.env) fp) (ca := ca) (TgOk.blk C hc) htg1) (fun s H D cl fp => pts_nil) helt (fold_of hset) (fun _ => fold_of hset1)).imp fun σ H Q q => ?_
  rw [own2_map]
  exact comp2_of hw hw1 hs2 q
end
end EV
namespace EV
open PySem PySem.Spec PyProof.Rows L2
section
variable {X : Cx} {CX : CXT} {k : Nat} {x : Str} {p pos apos : Pos} {o : Expr} {m : Str} {ta : TE} {t : TA}
/-- o.m(..), the class of o found as it runs -/
def tMethD (X : Cx) (CX : CXT) (k : Nat) (m : Str) (E : L2.St → XK) (ta : TE) (t : TA) : TE := fun σ H Q => ta σ H fun x H1 => ∃ C f fd ps sp a dx fs, x = .ref a ∧ H1 a = some (.ins C dx fs) ∧ fs.lookup m = none ∧ Cls X.K C ∧ Meth X.K C m f ∧
  FnOk X.prog X.w X.K X.mg X.base CX k f fd ps sp ∧ Binds X.K fd ps [] ∧ t σ H1 fun vs H2 => sp (x :: vs) H2 Q (E σ)
theorem stars_all : ∀ {es : List Expr} {env : Env} {pos : Pos}, es.all starB = true → (backTo pos (starEach es env)).all (fun x => !x.1) = true
  | [], _, _, _ => rfl
  | e :: es, env, pos, h => by
    rw [List.all_cons, Bool.and_eq_true] at h
    rw [star_of h.1]
    show (true && (backTo pos (starEach es env)).all (fun x => !x.1)) = true
    rw [stars_all h.2]
    rfl
theorem run_methD {E : L2.St → XK} {pins : List (Addr × Obj)} {s : Shared} {σ : L2.St} {H : Hp} {Q : VK} {a : Addr} {f : Addr} {fd : FuncData} {ps : List Str} {sp : Sp} (F : FnOk X.prog X.w X.K X.mg X.base CX k f fd ps sp) (hb : Binds X.K fd ps []) (hr : Room k X.A) (hx : ∀ σ, PassesAt CX X σ (E σ)) (us : List Value) (vs : List V) (I : Inv X pins σ H s) (r : Vals vs us) (q : sp (.ref a :: vs) H Q (E σ)) :
    wpAny (model X.prog X.w) X.A (call (.ref f) ([Value.ref a] ++ us)) (EP X pins σ Q) X.xe s :=
  run_fnSD (us := .ref a :: us) (vs := .ref a :: vs) (dvs := []) F hr hb .nil (hx σ) I (.cons rfl r) (by rw [List.append_nil]; exact q)
theorem pe_methD {E : L2.St → XK} {e : Expr} {es : List Expr} (he : PE X o ta) (hr : Room k X.A) (hx : ∀ σ, PassesAt CX X σ (E σ)) (ha : PA X (e :: es) t) (hbase : attributeBase o m X.env (eval o X.env) = eval o X.env) (hl : (apos.endLine == pos.line) = true)
    (hs : (e :: es).all starB = true) (hn : (e :: es).length < 29) :
    PE X (.Call (.Attribute o m apos) (e :: es) [] pos) (tMethD X CX k m E ta t) := by
  refine ⟨fun pins s σ H Q I h => ?_⟩
  rw [arm_eval_Call, hbase]
  refine wpAny_bind (thn (he.run pins s σ H _ I h) fun u s1 ⟨x, H1, I1, rx, C, f, fd, ps, sp, a, dx, fs, ex, ea, l, c, hm, F, hb, q⟩ => ?_)
  subst ex
  obtain rfl : u = Value.ref a := rx
  refine wpAny_bind (wpAny_standAt ?_)
  have hform : methodCallForm ((e :: es).length + ([] : List Keyword).length) (backTo pos (starEach (e :: es) X.env)) (backToKw pos (keywordEach [] X.env)) = true := by
    show ((backTo pos (starEach (e :: es) X.env)).all (fun x => !x.1) && true && decide ((e :: es).length + 0 + 0 < 30)) = true
    rw [stars_all hs]
    have : (e :: es).length + 0 + 0 < 30 := by omega
    rw [decide_eq_true this]; rfl
  have hpos : methodCallPos true o X.env apos pos = pure pos := by unfold methodCallPos; simp [hl]
  unfold methodCall
  rw [hform]
  refine wpAny_bind (wpAny_holding (getmeth_ok I1 ea c hm l ?_))
  refine wpAny_bind (wpAny_of_eq hpos ?_)
  rw [List.all_cons, Bool.and_eq_true] at hs
  exact PySem.W.callWith_K (first := [.ref a]) (h₀ := X.base) I.ok.mod.kin hm.kp (thn (ha.run pos pins s1 σ H1 _ I1 q) fun us s2 ⟨vs, H2, I2, r, q2⟩ => ⟨I2.kIn, run_methD F hb hr hx us vs I2 r q2⟩) (star_of hs.1) (stars_none hs.2)
theorem pe_methD0 {E : L2.St → XK} (he : PE X o ta) (hr : Room k X.A) (hx : ∀ σ, PassesAt CX X σ (E σ)) (hbase : attributeBase o m X.env (eval o X.env) = eval o X.env) (hl : (apos.endLine == pos.line) = true) :
    PE X (.Call (.Attribute o m apos) [] [] pos) (tMethD X CX k m E ta tNil) := by
  refine ⟨fun pins s σ H Q I h => ?_⟩
  rw [arm_eval_Call, hbase]
  refine wpAny_bind (thn (he.run pins s σ H _ I h) fun u s1 ⟨x, H1, I1, rx, C, f, fd, ps, sp, a, dx, fs, ex, ea, l, c, hm, F, hb, q⟩ => ?_)
  subst ex
  obtain rfl : u = Value.ref a := rx
  refine wpAny_bind (wpAny_standAt ?_)
  have hform : methodCallForm (([] : List Expr).length + ([] : List Keyword).length) (backTo pos (starEach [] X.env)) (backToKw pos (keywordEach [] X.env)) = true := rfl
  have hpos : methodCallPos true o X.env apos pos = pure pos := by unfold methodCallPos; simp [hl]
  unfold methodCall
  rw [hform]
  refine wpAny_bind (wpAny_holding (getmeth_ok I1 ea c hm l ?_))
  refine wpAny_bind (wpAny_of_eq hpos ?_)
  exact PySem.W.callWith_K0 (first := [.ref a]) I1.kIn hm.kp (run_methD F hb hr hx [] [] I1 .nil q)
/-- C(..) -/
def tMakeS (C : Addr) (sp : Sp) (E : L2.St → XK) (t : TA) : TE := fun σ H Q => t σ H fun vs H1 => ∀ x dx, H1 x = none → H1 dx = none → dx ≠ x →
  sp (.ref x :: vs) (upd (upd H1 dx (.own x)) x (.ins C dx [])) (fun v H2 => v = .non ∧ Q (.ref x) H2) (E σ)
theorem run_makeS {E : L2.St → XK} {C f : Addr} {fd : FuncData} {ps : List Str} {sp : Sp} {pins : List (Addr × Obj)} {σ : L2.St} {H : Hp} {s : Shared} {Q : VK} {us : List Value} {vs : List V} (M : Mk X.K C f) (F : FnOk X.prog X.w X.K X.mg X.base CX k f fd ps sp) (hr : Room (k + 1) X.A) (hb : Binds X.K fd ps [])
    (hx : PassesAt CX X σ (E σ)) (I : Inv X pins σ H s) (r : Vals vs us)
    (h : ∀ x dx, H x = none → H dx = none → dx ≠ x → sp (.ref x :: vs) (upd (upd H dx (.own x)) x (.ins C dx [])) (fun v H2 => v = .non ∧ Q (.ref x) H2) (E σ)) :
    wpAny (model X.prog X.w) X.A (call (.ref C) us) (EP X pins σ Q) X.xe s := by
  have hq := h (s.heap.objs.size + 1) s.heap.objs.size (I.hok.fresh (Nat.le_succ _)) (I.hok.fresh (Nat.le_refl _)) (Nat.ne_of_lt (Nat.lt_succ_self _))
  have I2 := Inv.made (C := C) I
  have r2 : Vals (V.ref (s.heap.objs.size + 1) :: vs) (Value.ref (s.heap.objs.size + 1) :: us) := .cons rfl r
  have hl : (Value.ref (s.heap.objs.size + 1) :: us).length = ps.length := by
    have e := r2.length
    rw [F.len _ _ _ _ hq] at e
    exact e.symm
  have hb2 := hb _ (Value.ref (s.heap.objs.size + 1) :: us) I2.kIn (by rw [List.append_nil]; exact hl)
  rw [List.append_nil] at hb2
  refine wpAny_call (make_map (f := f) I.kIn M.makes M.init (beq_iff_eq.mp M.fn) (codeAny_mono (F.run _ X.stack _ _ ⟨Value.ref (s.heap.objs.size + 1) :: us, []⟩ (Value.ref (s.heap.objs.size + 1) :: us) _ _ (E σ) (hr.make C us [])
    (I2.env0.make C us []) hb2 r2 hq) fun r s' hq' => ?_))
  cases r with
  | error e => exact hx pins _ _ e s' I2 hq'
  | ok fl =>
    cases fl with
    | ret u =>
      obtain ⟨v, H', I3, rv, ev, q3⟩ := I2.after hq'
      subst ev
      exact ⟨rv, ⟨V.ref (s.heap.objs.size + 1), H', I3, rfl, q3⟩⟩
    | next => exact False.elim hq'
    | brk => exact False.elim hq'
    | cont => exact False.elim hq'
theorem pe_makeS {E : L2.St → XK} {C f : Addr} {fd : FuncData} {ps : List Str} {sp : Sp} {e : Expr} {es : List Expr} (M : Mk X.K C f) (F : FnOk X.prog X.w X.K X.mg X.base CX k f fd ps sp) (hr : Room (k + 1) X.A) (hg : Gl X x) (hm : X.mg x = some (.ref C)) (hb : Binds X.K fd ps []) (hx : ∀ σ, PassesAt CX X σ (E σ))
    (ha : PA X (e :: es) t) (hdb : (x == ("__debug__" : Str)) = false) (hs : (e :: es).all starB = true) :
    PE X (.Call (.Name x p) (e :: es) [] pos) (tMakeS C sp E t) := by
  rw [List.all_cons, Bool.and_eq_true] at hs
  refine ⟨fun pins s σ H Q I h => ?_⟩
  refine wpAny_Call_Name_kw (ld_glob I hg hm ?_ hdb)
  refine PySem.W.callWith_K (h₀ := X.base) I.ok.mod.kin M.kp (thn (ha.run pos pins s σ H _ I h) fun us s1 ⟨vs, H1, I1, r, q⟩ => ⟨I1.kIn, ?_⟩) (star_of hs.1) (stars_none hs.2)
  exact run_makeS M F hr hb (hx σ) I1 r q
theorem pe_makeS0 {E : L2.St → XK} {C f : Addr} {fd : FuncData} {ps : List Str} {sp : Sp} (M : Mk X.K C f) (F : FnOk X.prog X.w X.K X.mg X.base CX k f fd ps sp) (hr : Room (k + 1) X.A) (hg : Gl X x) (hm : X.mg x = some (.ref C)) (hb : Binds X.K fd ps []) (hx : ∀ σ, PassesAt CX X σ (E σ))
    (hdb : (x == ("__debug__" : Str)) = false) : PE X (.Call (.Name x p) [] [] pos) (tMakeS C sp E tNil) := by
  refine ⟨fun pins s σ H Q I h => ?_⟩
  refine wpAny_Call_Name_kw (ld_glob I hg hm ?_ hdb)
  exact PySem.W.callWith_K0 I.kIn M.kp (run_makeS (us := []) M F hr hb (hx σ) I .nil h)
end
section
variable {ca : Ci} {ec : Nat → Addr} {wx : WX} {X : Cx} {Γ : Gm} {nm : Nm} {k : Nat} {calm : Bool} {sc : Scope}
theorem ins_rel {K : PySem.W.Frag} {W W0 : Wd} {st st0 : Sta} {σ : L2.St} {H H0 : Hp} {v : V} {x : Hd} {n c : Nat} {fs : List (Str × Sl)} (g : Good K ca W st σ H) (r : RepH K W0 st0 H0 W st σ H v x) (e : insOf st x = some (n, c, fs)) :
    x = .val (.box n) ∧ st.S[n]? = some (.ins c fs) ∧ v = .ref (W.m (.box n)) ∧ ∃ us, H (W.m (.box n)) = some (.ins (ca.cls c) (W.m (.dx n)) us) ∧ FldRel K W H n us fs := by
  unfold insOf at e
  split at e
  · rename_i n'
    split at e
    · rename_i c' fs' q
      cases e
      obtain ⟨us, h1, h2, h3, h4⟩ := g.obj n _ q
      have r : Rep K W v (.box n) := r
      cases r
      exact ⟨rfl, q, rfl, us, h1, h3⟩
    · cases e
  · cases e
theorem ok_fld {a : Sta → Res Hd} {l : Expr} {f : Str} {pos : Pos} (C : Okc Γ nm ca ec k wx calm sc X) (hf : f ∈ nm.flds) (ha : attrB l = true) (h : PE X l (tE X.K ca ec wx a)) :
    PE X (.Attribute l f pos) (tE X.K ca ec wx fun st => (a st).bind fun x st1 => ofO st1 (fldD Γ.ncl st1 x f)) :=
  (pe_fld h (attr_of ha)).imp fun σ H Q ⟨W, st, g, p⟩ => ⟨W, st, g, p.bind.mono fun W1 st1 H1 x f1 g1 p1 v r1 => by
    unfold fldD at p1
    split at p1
    · rename_i n c fs e
      obtain ⟨ex, e1, rfl, us, h1, h3⟩ := ins_rel g1 r1 e
      subst ex
      by_cases hc : c < Γ.ncl
      · rw [if_pos hc] at p1
        obtain ⟨c1, c2⟩ := C.cls c hc
        split at p1
        · rename_i d e2
          obtain ⟨u, lk, ru, _⟩ := h3.look e2
          obtain ⟨y, ey, ry⟩ := ru
          cases ey
          exact ⟨_, _, _, _, _, rfl, h1, c1, c2 f hf, lk, p1 W1 H1 (.refl ..) g1 _ ry⟩
        · rename_i d e2
          obtain ⟨u, lk, ru, _⟩ := h3.look e2
          obtain ⟨ey, vs, _, _⟩ := ru
          cases ey
          exact ⟨_, _, _, _, _, rfl, h1, c1, c2 f hf, lk, p1 W1 H1 (.refl ..) g1 _ ⟨rfl, c, fs, _, e1, e2, rfl⟩⟩
        · rename_i d e2
          obtain ⟨u, lk, ru, _⟩ := h3.look e2
          obtain ⟨ey, vs, _, _⟩ := ru
          cases ey
          exact ⟨_, _, _, _, _, rfl, h1, c1, c2 f hf, lk, p1 W1 H1 (.refl ..) g1 _ ⟨rfl, c, fs, _, e1, e2, rfl⟩⟩
        · exact p1.elim
      · rw [if_neg hc] at p1; exact p1.elim
    · exact p1.elim⟩
/-- behind the arguments: the call -/
theorem meth_back {W W2 : Wd} {st st2 : Sta} {σ : L2.St} {H H2 : Hp} {Q : VK} {K : PySem.W.Frag} {n g : Nat} {ds : List Dt} {np : Nat} {vs : List V} (ar : ∀ ro ds S, Γ.call g ro ds S ≠ .stuck → ds.length = np)
    (f2 : Frm W st H W2 st2 H2) (g2 : Good K ca W2 st2 σ H2) (rn : Rep K W2 (.ref (W2.m (.box n))) (.box n)) (rs : Reps K W2 vs ds)
    (p : Post K ca ec wx W2 st2 σ H2 (match Γ.call g st2.ro (.box n :: ds) st2.S with
      | .ok h S => .ok h { st2 with S := S }
      | .exc c S => .exc c { st2 with S := S }
      | .stuck => .stuck) (PK_ K W st σ H Q)) : spF K ca ec (Γ.call g) np (.ref (W2.m (.box n)) :: vs) H2 Q (WE wx σ) := by
  refine ⟨W2, st2.S, st2.ro, .box n :: ds, ?_, good_sto g2, .cons rn rs, ?_⟩
  · show vs.length + 1 = np
    rw [rs.length]
    refine ar st2.ro (.box n :: ds) st2.S fun z => ?_
    rw [z] at p
    exact p.elim
  · cases q : Γ.call g st2.ro (.box n :: ds) st2.S with
    | stuck => rw [q] at p; exact p.elim
    | ok h S =>
      rw [q] at p
      intro W' H' v fr g' r
      obtain ⟨f3, g3⟩ := call_back g2 fr g'
      exact p _ H' f3 g3 v ((rep_back (Wc := W2) g2 fr r).early f2)
    | exc c S =>
      rw [q] at p
      intro W' H' fr g'
      obtain ⟨f3, g3⟩ := call_back g2 fr g'
      exact p _ H' f3 g3
theorem ok_meth {a : Sta → Res Hd} {ms : Sta → Res (List Dt)} {l : Expr} {m : Str} {ls : List Expr} {ap pos : Pos} (C : Okc Γ nm ca ec k wx calm sc X) (hc : calm = true) (hl : (ap.endLine == pos.line) = true) (hn : ls.length < 29) (ha : attrB l = true) (hs : ls.all starB = true)
    (h : PE X l (tE X.K ca ec wx a)) (h' : PA X ls (tA X.K ca ec wx ms)) (hnil : ls = [] → ms = fun st => .ok [] st) :
    PE X (.Call (.Attribute l m ap) ls [] pos) (tE X.K ca ec wx fun st => (a st).bind fun x st1 => (match methD Γ.ncl Γ.mth st1 x m with
    | some (n, g) => (ms st1).bind fun ds st2 => (match Γ.call g st2.ro (.box n :: ds) st2.S with
      | .ok h S => .ok h { st2 with S := S }
      | .exc c S => .exc c { st2 with S := S }
      | .stuck => .stuck)
    | none => .stuck)) := by
  have hr := (C.room hc).mono (Nat.le_succ k)
  have go : ∀ {t : TA}, (∀ σ H Q, tA X.K ca ec wx ms σ H Q → t σ H Q) → ∀ σ H Q, (tE X.K ca ec wx fun st => (a st).bind fun x st1 => (match methD Γ.ncl Γ.mth st1 x m with
    | some (n, g) => (ms st1).bind fun ds st2 => (match Γ.call g st2.ro (.box n :: ds) st2.S with
      | .ok h S => .ok h { st2 with S := S }
      | .exc c S => .exc c { st2 with S := S }
      | .stuck => .stuck)
    | none => .stuck)) σ H Q → tMethD X (L2.CX X.prog X.w) k m (WE wx) (tE X.K ca ec wx a) t σ H Q := by
    intro t ht σ H Q ⟨W, st, g, p⟩
    refine ⟨W, st, g, p.bind.mono fun W1 st1 H1 x f1 g1 p1 v r1 => ?_⟩
    cases e : methD Γ.ncl Γ.mth st1 x m with
    | none => rw [e] at p1; exact p1.elim
    | some pr =>
      obtain ⟨n, gg⟩ := pr
      rw [e] at p1
      have p1 : Post X.K ca ec wx W1 st1 σ H1 ((ms st1).bind fun ds st2 => (match Γ.call gg st2.ro (.box n :: ds) st2.S with
        | .ok h S => .ok h { st2 with S := S }
        | .exc c S => .exc c { st2 with S := S }
        | .stuck => .stuck)) (PK_ X.K W st σ H Q) := p1
      unfold methD at e
      split at e
      · rename_i n' c fs ei
        obtain ⟨ex, e1, rfl, us, h1, h3⟩ := ins_rel g1 r1 ei
        subst ex
        split at e
        · rename_i hcl
          cases eg : Γ.mth c m with
          | none => rw [eg] at e; cases e
          | some gg' =>
            rw [eg] at e
            cases e
            obtain ⟨af, fd, ps, M, F, B, ar⟩ := C.mth hc c m gg eg hcl.1
            have lk : us.lookup m = none := h3.lookN (by simpa using hcl.2)
            refine ⟨_, _, _, _, _, _, _, _, rfl, h1, lk, (C.cls c hcl.1).1, M, F, B, ht _ _ _ ⟨W1, st1, g1, p1.bind.mono fun W2 st2 H2 ds f2 g2 p2 vs rs => ?_⟩⟩
            have rb : Rep X.K W1 (.ref (W1.m (.box n))) (.box n) := r1
            have rb2 := rb.ext f2.ext
            have em : W2.m (.box n) = W1.m (.box n) := by
              have lt : n < W1.nb := by rw [g1.nb]; exact (List.getElem?_eq_some_iff.mp e1).1
              exact f2.ext.m n lt
            rw [← em] at rb2 ⊢
            exact meth_back ar (f1.trans f2) g2 rb2 rs (by
              have p2' := p2
              exact p2')
        · cases e
      · cases e
  cases ls with
  | nil =>
    refine (pe_methD0 (E := WE wx) h hr (passAt C.tk) (attr_of ha) hl).imp (go fun σ H Q hq => ?_)
    rw [hnil rfl] at hq
    obtain ⟨W, st, g, p⟩ := hq
    exact p W H (.refl ..) g [] .nil
  | cons l0 ls => exact (pe_methD (E := WE wx) h hr (passAt C.tk) h' (attr_of ha) hl hs hn).imp (go fun σ H Q hq => hq)
theorem ok_make {c g : Nat} {ms : Sta → Res (List Dt)} {x : Str} {ls : List Expr} {p pos : Pos} (C : Okc Γ nm ca ec k wx calm sc X) (hc : calm = true) (hcl : nm.cl[c]? = some (x, g)) (hx : glB sc x = true) (hd : notDbg x = true) (hs : ls.all starB = true)
    (h' : PA X ls (tA X.K ca ec wx ms)) (hnil : ls = [] → ms = fun st => .ok [] st) :
    PE X (.Call (.Name x p) ls [] pos) (tE X.K ca ec wx fun st => (ms st).bind fun ds st1 => if st1.ro then .stuck else (match Γ.call g st1.ro (.box st1.S.length :: ds) (st1.S ++ [.ins c []]) with
    | .ok (.val .non) S => .ok (.val (.box st1.S.length)) { st1 with S := S }
    | .exc e S => .exc e { st1 with S := S }
    | _ => .stuck)) := by
  obtain ⟨e1, a, fd, ps, M, F, B, ar⟩ := C.mkr hc c x g hcl
  have hr := C.room hc
  have go : ∀ {t : TA}, (∀ σ H Q, tA X.K ca ec wx ms σ H Q → t σ H Q) → ∀ σ H Q, (tE X.K ca ec wx fun st => (ms st).bind fun ds st1 => if st1.ro then .stuck else (match Γ.call g st1.ro (.box st1.S.length :: ds) (st1.S ++ [.ins c []]) with
    | .ok (.val .non) S => .ok (.val (.box st1.S.length)) { st1 with S := S }
    | .exc e S => .exc e { st1 with S := S }
    | _ => .stuck)) σ H Q → tMakeS (ca.cls c) (spF X.K ca ec (Γ.call g) ps.length) (WE wx) t σ H Q := by
    intro t ht σ H Q ⟨W, st, g0, p0⟩
    refine ht _ _ _ ⟨W, st, g0, p0.bind.mono fun W1 st1 H1 ds f1 g1 p1 vs rs y dx hy hdx hn => ?_⟩
    by_cases hro : st1.ro = true
    · rw [if_pos hro] at p1; exact p1.elim
    · rw [if_neg hro] at p1
      obtain ⟨W2, f2, g2, hb, hlt, ex⟩ := new_ins (c := c) (.refl W1 st1 H1) g1 hy hdx hn
      generalize upd (upd H1 dx (.own y)) y (.ins (ca.cls c) dx []) = H2 at f2 g2
      have rb : Rep X.K W2 (.ref (W2.m (.box st1.S.length))) (.box st1.S.length) := .box hlt
      rw [hb] at rb
      refine ⟨W2, st1.S ++ [.ins c []], st1.ro, .box st1.S.length :: ds, ?_, good_sto g2, .cons rb (rs.ext ex), ?_⟩
      · show vs.length + 1 = ps.length
        rw [rs.length]
        refine ar st1.ro (.box st1.S.length :: ds) (st1.S ++ [.ins c []]) fun z => ?_
        rw [z] at p1
        exact p1.elim
      · cases q : Γ.call g st1.ro (.box st1.S.length :: ds) (st1.S ++ [.ins c []]) with
        | stuck => rw [q] at p1; exact p1.elim
        | ok h S =>
          rw [q] at p1
          intro W' H' v fr g' r
          obtain ⟨f3, g3⟩ := call_back (st := { st1 with S := st1.S ++ [.ins c []] }) g2 fr g'
          have hv : h = .val .non := by
            cases h with
            | val d => cases d <;> first | rfl | exact p1.elim
            | _ => exact p1.elim
          subst hv
          have r : Rep X.K W' v .non := r
          cases r
          refine ⟨rfl, p1 _ H' (f2.trans f3) g3 _ ?_⟩
          exact rb.ext f3.ext
        | exc c' S =>
          rw [q] at p1
          intro W' H' fr g'
          obtain ⟨f3, g3⟩ := call_back (st := { st1 with S := st1.S ++ [.ins c []] }) g2 fr g'
          exact p1 _ H' (f2.trans f3) g3
  cases ls with
  | nil =>
    refine (pe_makeS0 (E := WE wx) M F hr (gl_of C hx) e1 B (passAt C.tk) (dbg_of hd).1).imp (go fun σ H Q hq => ?_)
    rw [hnil rfl] at hq
    obtain ⟨W, st, g, p⟩ := hq
    exact p W H (.refl ..) g [] .nil
  | cons l0 ls => exact (pe_makeS (E := WE wx) M F hr (gl_of C hx) e1 B (passAt C.tk) h' (dbg_of hd).1 hs).imp (go fun σ H Q hq => hq)
theorem Reps.dropLast {K : PySem.W.Frag} {W : Wd} {xs : List V} {us : List Dt} (h : Reps K W xs us) : Reps K W xs.dropLast us.dropLast := by
  rw [List.dropLast_eq_take, List.dropLast_eq_take, h.length]
  exact h.take _
theorem ok_popl {a : Sta → Res Hd} {l : Expr} {ap pos : Pos} (hl : (ap.endLine == pos.line) = true) (ha : attrB l = true) (h : PE X l (tE X.K ca ec wx a)) :
    PE X (.Call (.Attribute l "pop" ap) [] [] pos) (tE X.K ca ec wx fun st => (a st).bind fun x st1 => (match poplD st1 x with
    | some p => .ok (.val p.1) p.2
    | none => .stuck)) := by
  refine (pe_bm0 PySem.F.plainAttrs_list PySem.F.slot_list_pop PySem.F.type_list_pop mt_pop h (attr_of ha) hl).imp fun σ H Q ⟨W, st, g, p⟩ => ?_
  refine ⟨W, st, g, p.bind.mono fun W1 st1 H1 x f1 g1 p1 v r1 => ?_⟩
  split at p1
  · rename_i pp q
    unfold poplD at q
    split at q
    · rename_i i
      split at q
      · rename_i ds e1
        cases ed : ds[ds.length - 1]? with
        | none => rw [ed] at q; cases q
        | some d =>
          rw [ed] at q
          cases q
          obtain ⟨e2, vs, h1, t⟩ := g1.slot i _ e1
          have r1 : σ[i]? = some (some v) := r1
          rw [r1] at e2
          have e3 : v = .ref (W1.m (.slot i)) := by simpa using e2
          subst e3
          obtain ⟨w, hw, rw_⟩ := t.get ed
          refine ⟨.inl ⟨rfl, _, .inl (.inl h1)⟩, _, vs, w, rfl, rfl, h1, by rw [t.length]; exact hw, ?_⟩
          obtain ⟨f4, g4⟩ := mut_slot (sl' := .own ds.dropLast) (ob := .lst vs.dropLast) e1 rfl rfl (.refl W1 st1 H1) g1 ⟨rfl, _, upd_same, t.dropLast⟩
          exact p1 W1 _ f4 g4 _ rw_
      · cases q
    · rename_i n f
      split at q
      · rename_i c fs ds e0
        obtain ⟨hro, e1, e2⟩ := ownF_of e0
        cases ed : ds[ds.length - 1]? with
        | none => rw [ed] at q; cases q
        | some d =>
          rw [ed] at q
          cases q
          obtain ⟨vs, h1, t⟩ := fldO_rel g1 e1 e2
          have e3 : v = .ref (W1.m (.fld n f)) := r1.1
          subst e3
          obtain ⟨w, hw, rw_⟩ := t.get ed
          refine ⟨.inl ⟨rfl, _, .inl (.inl h1)⟩, _, vs, w, rfl, rfl, h1, by rw [t.length]; exact hw, ?_⟩
          obtain ⟨f4, g4⟩ := mut_fld (x := .own ds.dropLast) (ob := .lst vs.dropLast) e1 e2 rfl rfl hro (.refl W1 st1 H1) g1 ⟨rfl, _, upd_same, t.dropLast⟩
          exact p1 W1 _ f4 g4 _ rw_
      · cases q
    · cases q
  · exact p1.elim
end
end EV
namespace EV
open PySem PySem.Spec PyProof.Rows L2
section
variable {ca : Ci} {ec : Nat → Addr} {Γ : Gm} {nm : Nm} {k : Nat} {calm : Bool}
theorem b2 {a b : Bool} (h : (a && b) = true) : a = true ∧ b = true := Bool.and_eq_true_iff.mp h
theorem ofd {p : Prop} [Decidable p] (h : decide p = true) : p := of_decide_eq_true h
theorem noM {b : Bool} (h : (!b) = true) : b = false := by cases b <;> simp_all
/-- an expression's run, and its test -/
def SndE (ca : Ci) (ec : Nat → Addr) (wx : WX) (X : Cx) (py : Expr) (m : Sta → Res Hd) : Prop := PE X py (tE X.K ca ec wx m) ∧ PT X py (tT X.K ca ec wx fun st => (m st).truth)
theorem snd_val {wx : WX} {X : Cx} {py : Expr} {m : Sta → Res Hd} (h : PE X py (tE X.K ca ec wx m)) (he : ∀ whole, isTrue py X.env whole = (do let v ← whole; standAt py.pos; holding [v] (truthy v)) := by intro _; rfl) : SndE ca ec wx X py m :=
  ⟨h, (pt_val h he).imp fun σ H Q p => tTest_of (fun _ _ _ z => z) σ H Q p⟩
theorem all_star : ∀ {es : Es} {ls : List Expr} {sc : Scope}, chkEs nm calm sc es ls = true → ls.all starB = true
  | .nil, [], _, _ => rfl
  | .cons e es, l :: ls, sc, h => by
    have h : (starB l && (chkE nm calm sc e l && chkEs nm calm sc es ls)) = true := h
    obtain ⟨h1, h2⟩ := b2 h
    rw [List.all_cons, h1, all_star (b2 h2).2]
    rfl
  | .nil, _ :: _, _, h => by cases h
  | .cons _ _, [], _, h => by cases h
theorem nil_es {es : Es} {ls : List Expr} {sc : Scope} (h : chkEs nm calm sc es ls = true) : ls = [] → evEs Γ es = fun st => .ok [] st := fun e => by
  subst e
  cases es with
  | nil => rfl
  | cons _ _ => cases h
theorem ok_ifeT {wx : WX} {X : Cx} {t a b : Sta → Res Hd} {c l r : Expr} {pos : Pos} (ht : PT X c (tT X.K ca ec wx fun st => (t st).truth)) (ha : PT X l (tT X.K ca ec wx fun st => (a st).truth)) (hb : PT X r (tT X.K ca ec wx fun st => (b st).truth)) :
    PT X (.IfExp c l r pos) (tT X.K ca ec wx fun st => ((t st).truth.bind fun k st1 => if k then a st1 else b st1).truth) := by
  refine ⟨fun pins s σ H Q I ⟨W, st, g, p⟩ => ?_⟩
  have p : Post X.K ca ec wx W st σ H ((t st).truth.bind fun k st1 => (if k then a st1 else b st1).truth) (fun _ _ H' b => Q b H') := by
    have e : ((t st).truth.bind fun k st1 => if k then a st1 else b st1).truth = ((t st).truth.bind fun k st1 => (if k then a st1 else b st1).truth) := by
      cases (t st).truth <;> rfl
    rw [← e]; exact p
  show wpAny _ _ (do if ← isTrue c X.env (eval c X.env) then isTrue l X.env (eval l X.env) else isTrue r X.env (eval r X.env)) _ _ _
  refine wpAny_bind (thn (ht.run pins s σ H (fun k H1 => ∃ W1 st1, Good X.K ca W1 st1 σ H1 ∧ Post X.K ca ec wx W1 st1 σ H1 ((if k then a st1 else b st1).truth) (fun _ _ H' b => Q b H')) I ⟨W, st, g, p.bind.mono fun W1 st1 H1 k f1 g1 p1 => ⟨W1, st1, g1, p1⟩⟩) fun d s1 ⟨H1, I1, W1, st1, g1, p1⟩ => ?_)
  cases d with
  | true => exact ha.run pins s1 σ H1 Q I1 ⟨W1, st1, g1, p1⟩
  | false => exact hb.run pins s1 σ H1 Q I1 ⟨W1, st1, g1, p1⟩
mutual
theorem soundE : ∀ (e : E) {wx : WX} {sc : Scope} {X : Cx} (C : Okc Γ nm ca ec k wx calm sc X) (py : Expr), chkE nm calm sc e py = true → SndE ca ec wx X py (evE Γ e)
  | .var i, wx, sc, X, C, py, h => by
    cases py with
    | Name x p => exact snd_val (ok_var C h)
    | _ => cases h
  | .frz i, wx, sc, X, C, py, h => by
    cases py with
    | Name x p => exact snd_val (ok_frz C h)
    | _ => cases h
  | .cst d, wx, sc, X, C, py, h => by
    cases py with
    | Constant c j p => exact snd_val (ok_cst h)
    | _ => cases h
  | .glob g, wx, sc, X, C, py, h => by
    cases py with
    | Name x p =>
      obtain ⟨h1, h2⟩ := b2 h
      obtain ⟨h2, h3⟩ := b2 h2
      exact snd_val (ok_glob C (ofd h1) h2 h3)
    | _ => cases h
  | .bin o a b, wx, sc, X, C, py, h => by
    cases py with
    | BinOp l op r p =>
      obtain ⟨h1, h2⟩ := b2 h
      obtain ⟨h2, h3⟩ := b2 h2
      cases ofd h1
      exact snd_val (ok_bin (soundE a C l h2).1 (soundE b C r h3).1)
    | _ => cases h
  | .cmp o a b, wx, sc, X, C, py, h => by
    cases py with
    | Compare l ops rs p =>
      match ops, rs, h with
      | [op], [r], h =>
        obtain ⟨h1, h2⟩ := b2 h
        obtain ⟨h2, h3⟩ := b2 h2
        obtain ⟨h3, h4⟩ := b2 h3
        cases ofd h1
        have sa := (soundE a C l h3).1
        have sb := (soundE b C r h4).1
        exact ⟨ok_cmp C.hu sa sb (noM h2), ok_cmpT C.hu sa sb (noM h2)⟩
    | _ => cases h
  | .chain o q a b c, wx, sc, X, C, py, h => by
    cases py with
    | Compare l ops rs p =>
      match ops, rs, h with
      | [op, op'], [m, r], h =>
        obtain ⟨h1, h2⟩ := b2 h
        obtain ⟨h2, h3⟩ := b2 h2
        obtain ⟨h3, h4⟩ := b2 h3
        obtain ⟨h4, h5⟩ := b2 h4
        obtain ⟨h5, h6⟩ := b2 h5
        cases ofd h1
        cases ofd h2
        have sa := (soundE a C l h4).1
        have sb := (soundE b C m h5).1
        have sc' := (soundE c C r h6).1
        exact ⟨ok_chain C.hu sa sb sc' (noM h3), ok_chainT C.hu sa sb sc' (noM h3)⟩
    | _ => cases h
  | .ix a b, wx, sc, X, C, py, h => by
    cases py with
    | Subscript l r p =>
      obtain ⟨h1, h2⟩ := b2 h
      obtain ⟨h2, h3⟩ := b2 h2
      exact snd_val (ok_ix (soundE a C l h2).1 (soundE b C r h3).1 (plain_of h1))
    | _ => cases h
  | .un o a, wx, sc, X, C, py, h => by
    cases py with
    | UnaryOp op l p =>
      cases o with
      | neg =>
        obtain ⟨h1, h2⟩ := b2 (show (decide (op = unO .neg) && chkE nm calm sc a l) = true from by cases op <;> first | exact h | cases h)
        cases ofd h1
        exact snd_val (ok_un (o := .neg) (soundE a C l h2).1)
      | inv =>
        obtain ⟨h1, h2⟩ := b2 (show (decide (op = unO .inv) && chkE nm calm sc a l) = true from by cases op <;> first | exact h | cases h)
        cases ofd h1
        exact snd_val (ok_un (o := .inv) (soundE a C l h2).1)
    | _ => cases h
  | .not a, wx, sc, X, C, py, h => by
    cases py with
    | UnaryOp op l p =>
      cases op with
      | Not =>
        have s := soundE a C l h
        exact ⟨ok_not s.1, ok_notT s.2⟩
      | _ => cases h
    | _ => cases h
  | .and a b, wx, sc, X, C, py, h => by
    cases py with
    | BoolOp op vs p =>
      cases op with
      | And =>
        match vs, h with
        | [l, r], h =>
          obtain ⟨h1, h2⟩ := b2 h
          have sa := soundE a C l h1
          have sb := soundE b C r h2
          exact ⟨ok_and sa.1 (pe_one sb.1), (ok_andT sa.2 (pw_and1 sb.2)).pt⟩
        | l :: m :: r :: rs, h =>
          obtain ⟨h1, h2⟩ := b2 h
          have sa := soundE a C l h1
          have sb := soundE b C _ h2
          exact ⟨ok_and sa.1 sb.1, (ok_andT sa.2 ⟨fun wh pins s σ H Q I q => sb.2.run pins s σ H Q I q⟩).pt⟩
      | _ => cases h
    | _ => cases h
  | .or a b, wx, sc, X, C, py, h => by
    cases py with
    | BoolOp op vs p =>
      cases op with
      | Or =>
        match vs, h with
        | [l, r], h =>
          obtain ⟨h1, h2⟩ := b2 h
          have sa := soundE a C l h1
          have sb := soundE b C r h2
          exact ⟨ok_or sa.1 (pe_one sb.1), (ok_orT sa.2 (pw_or1 sb.2)).pt⟩
        | l :: m :: r :: rs, h =>
          obtain ⟨h1, h2⟩ := b2 h
          have sa := soundE a C l h1
          have sb := soundE b C _ h2
          exact ⟨ok_or sa.1 sb.1, (ok_orT sa.2 ⟨fun wh pins s σ H Q I q => sb.2.run pins s σ H Q I q⟩).pt⟩
      | _ => cases h
    | _ => cases h
  | .ife t a b, wx, sc, X, C, py, h => by
    cases py with
    | IfExp c l r p =>
      obtain ⟨h1, h2⟩ := b2 h
      obtain ⟨h2, h3⟩ := b2 h2
      have st := soundE t C c h1
      have sa := soundE a C l h2
      have sb := soundE b C r h3
      exact ⟨ok_ife st.2 sa.1 sb.1, ok_ifeT st.2 sa.2 sb.2⟩
    | _ => cases h
  | .tup es, wx, sc, X, C, py, h => by
    cases py with
    | Tuple ls j p => exact snd_val (ok_tup (soundEs es C ls h))
    | _ => cases h
  | .lst es, wx, sc, X, C, py, h => by
    cases py with
    | List ls p => exact snd_val (ok_lst (soundEs es C ls h))
    | _ => cases h
  | .call f es, wx, sc, X, C, py, h => by
    cases py with
    | Call fn ls ks p =>
      cases fn with
      | Name x xp =>
        cases ks with
        | nil =>
          obtain ⟨h1, k2⟩ := b2 h
          obtain ⟨h2, k3⟩ := b2 k2
          obtain ⟨h3, k4⟩ := b2 k3
          obtain ⟨h4, k5⟩ := b2 k4
          obtain ⟨h5, h6⟩ := b2 k5
          cases ls with
          | nil => cases h5
          | cons l ls => exact snd_val (ok_call C h1 (ofd h2) h3 h4 (all_star h6) (soundEs es C _ h6))
        | cons _ _ => cases h
      | _ => cases h
    | _ => cases h
  | .blt b a, wx, sc, X, C, py, h => by
    cases py with
    | Call fn ls ks p =>
      cases fn with
      | Name x xp =>
        match ls, ks, h with
        | [l], [], h =>
          obtain ⟨h0, h⟩ := b2 h
          obtain ⟨h1, h2⟩ := b2 h
          obtain ⟨h2, h3⟩ := b2 h2
          obtain ⟨h3, h4⟩ := b2 h3
          cases ofd h1
          have hc : bltC b = false ∨ calm = true := by
            cases hb : bltC b with
            | false => exact .inl rfl
            | true => rw [hb] at h0; exact .inr h0
          exact snd_val (ok_blt C hc h2 h3 (soundE a C l h4).1)
      | _ => cases h
    | _ => cases h
  | .blt2 b a c, wx, sc, X, C, py, h => by
    cases py with
    | Call fn ls ks p =>
      cases fn with
      | Name x xp =>
        match ls, ks, h with
        | [l, r], [], h =>
          obtain ⟨h0, h1⟩ := b2 h
          obtain ⟨h1, h2⟩ := b2 h1
          obtain ⟨h2, h3⟩ := b2 h2
          obtain ⟨h3, h4⟩ := b2 h3
          obtain ⟨h4, h5⟩ := b2 h4
          obtain ⟨h5, h6⟩ := b2 h5
          cases ofd h1
          exact snd_val (ok_blt2 C h0 h2 h3 h4 (soundE a C l h5).1 (soundE c C r h6).1)
      | _ => cases h
    | _ => cases h
  | .isi a t, wx, sc, X, C, py, h => by
    cases py with
    | Call fn ls ks p =>
      cases fn with
      | Name x xp =>
        match ls, ks, h with
        | [l, .Name y yp], [], h =>
          obtain ⟨h0, k1⟩ := b2 h
          obtain ⟨h1, k2⟩ := b2 k1
          obtain ⟨h2, k3⟩ := b2 k2
          obtain ⟨h3, k4⟩ := b2 k3
          obtain ⟨h4, h5⟩ := b2 k4
          cases ofd h0
          cases ofd h1
          exact snd_val (ok_isi C h2 h3 h4 (soundE a C l h5).1)
      | _ => cases h
    | _ => cases h
  | .exi i c, wx, sc, X, C, py, h => by
    cases py with
    | Call fn ls ks p =>
      cases fn with
      | Name x xp =>
        match ls, ks, h with
        | [.Name z zp, .Name y yp], [], h =>
          obtain ⟨h0, k1⟩ := b2 h
          obtain ⟨h1, k2⟩ := b2 k1
          obtain ⟨h2, k3⟩ := b2 k2
          obtain ⟨h3, k4⟩ := b2 k3
          obtain ⟨h4, h5⟩ := b2 k4
          cases ofd h0
          exact snd_val (ok_exi C h2 h5 (ofd h1) h3 h4)
      | _ => cases h
    | _ => cases h
  | .comp elt it tg cond own, wx, sc, X, C, py, h => by
    cases py with
    | ListComp el gs scope p =>
      match gs, h with
      | [⟨t, i, ifs, 0⟩], h =>
        obtain ⟨h0, h1⟩ := b2 h
        obtain ⟨h1, h2⟩ := b2 h1
        obtain ⟨h2, h3⟩ := b2 h2
        obtain ⟨h3, h4⟩ := b2 h3
        obtain ⟨h4, h5⟩ := b2 h4
        obtain ⟨h5, h6⟩ := b2 h5
        obtain ⟨h6, h7⟩ := b2 h6
        refine snd_val (ok_comp (mc := fun s => (evE Γ cond s).truth) (me := evE Γ elt) C h0 h1 h2 (soundI it C i h3) h4 h5 (fun s H D cl fp => ?_) (fun s H D cl fp => ?_))
        · match ifs, cond, h6 with
          | [], .cst (.bl true), _ => exact ⟨fun pins s' σ H' Q I q => pts_nil.run pins s' σ H' Q I (by
              obtain ⟨W, st, g, p⟩ := q
              exact p W H' (.refl ..) g)⟩
          | [c], cond, h6 => exact pts_one (soundE cond (C.blk h0 takes0) c h6).2
        · exact (soundE elt (C.blk h0 takes0) el h7).1
    | _ => cases h
  | .comp2 elt it tg it1 tg1 own own1, wx, sc, X, C, py, h => by
    cases py with
    | ListComp el gs scope p =>
      match gs, h with
      | [⟨t, i, [], 0⟩, ⟨t1, i1, [], 0⟩], h =>
        obtain ⟨h0, h1⟩ := b2 h
        obtain ⟨h1, h2⟩ := b2 h1
        obtain ⟨h2, h3⟩ := b2 h2
        obtain ⟨h3, h4⟩ := b2 h3
        obtain ⟨h4, h5⟩ := b2 h4
        obtain ⟨h5, h6⟩ := b2 h5
        obtain ⟨h6, h7⟩ := b2 h6
        obtain ⟨h7, h8⟩ := b2 h7
        obtain ⟨h8, h9⟩ := b2 h8
        obtain ⟨h9, h10⟩ := b2 h9
        obtain ⟨h10, h11⟩ := b2 h10
        exact snd_val (ok_comp2 (me := evE Γ elt) (mi1 := evI Γ it1) C h0 h1 h2 h3 (soundI it C i h4) h6 h7 h8 h9 h10 (fun s H D cl fp => soundI it1 (C.blk h0 takes0) i1 h5) (fun s H D cl fp => (soundE elt (C.blk h0 takes0) el h11).1))
    | _ => cases h
  | .find a b, wx, sc, X, C, py, h => by
    cases py with
    | Call fn ls ks p =>
      cases fn with
      | Attribute l m ap =>
        match ls, ks, h with
        | [r], [], h =>
          obtain ⟨h1, h2⟩ := b2 h
          obtain ⟨h2, h3⟩ := b2 h2
          obtain ⟨h3, h4⟩ := b2 h3
          obtain ⟨h4, h5⟩ := b2 h4
          obtain ⟨h5, h6⟩ := b2 h5
          cases ofd h1
          exact snd_val (ok_find h2 h3 h4 (soundE a C l h5).1 (soundE b C r h6).1)
      | _ => cases h
    | _ => cases h
  | .pop i e, wx, sc, X, C, py, h => by
    cases py with
    | Call fn ls ks p =>
      cases fn with
      | Attribute l m ap =>
        cases l with
        | Name x xp =>
          match ls, ks, h with
          | [r], [], h =>
            obtain ⟨h1, h2⟩ := b2 h
            obtain ⟨h2, h3⟩ := b2 h2
            obtain ⟨h3, h4⟩ := b2 h3
            obtain ⟨h4, h5⟩ := b2 h4
            cases ofd h1
            exact snd_val (ok_pop C h4 h2 h3 (soundE e C r h5).1)
        | _ => cases h
      | _ => cases h
    | _ => cases h
  | .dnew, wx, sc, X, C, py, h => by
    cases py with
    | Dict ks vs p =>
      match ks, vs, h with
      | [], [], _ => exact snd_val ok_dnew
    | _ => cases h
  | .dix a b, wx, sc, X, C, py, h => by
    cases py with
    | Subscript l r p =>
      obtain ⟨h1, h2⟩ := b2 h
      obtain ⟨h2, h3⟩ := b2 h2
      exact snd_val (ok_dix C.hu h1 (soundE a C l h2).1 (soundE b C r h3).1)
    | _ => cases h
  | .din g a b, wx, sc, X, C, py, h => by
    cases py with
    | Compare l ops rs p =>
      match ops, rs, h with
      | [op], [r], h =>
        obtain ⟨h1, h2⟩ := b2 h
        obtain ⟨h2, h3⟩ := b2 h2
        obtain ⟨h3, h4⟩ := b2 h3
        cases ofd h1
        have c := ok_din (b0 := g) C.hu (soundE a C l h3).1 (soundE b C r h4).1
        exact ⟨pe_cmp c (noM h2), (pt_cmp c (noM h2)).imp fun σ H Q p => tTest_of (fun _ _ _ z => z) σ H Q p⟩
    | _ => cases h
  | .sset a, wx, sc, X, C, py, h => by
    cases py with
    | Call fn ls ks p =>
      cases fn with
      | Name x xp =>
        match ls, ks, h with
        | [.Call (.Name y yp) [l] [] pp], [], h =>
          obtain ⟨h0, h⟩ := b2 h
          obtain ⟨h1, z2⟩ := b2 h
          obtain ⟨h2, z3⟩ := b2 z2
          obtain ⟨h3, z4⟩ := b2 z3
          obtain ⟨h4, z5⟩ := b2 z4
          obtain ⟨h5, h6⟩ := b2 z5
          cases ofd h1
          cases ofd h2
          exact snd_val (ok_sset C h0 h3 h4 h5 (soundE a C l h6).1)
      | _ => cases h
    | _ => cases h
  | .lrg1 a, wx, sc, X, C, py, h => by
    cases py with
    | Call fn ls ks p =>
      cases fn with
      | Name x xp =>
        match ls, ks, h with
        | [.Call (.Name y yp) [l] [] pp], [], h =>
          obtain ⟨h0, h⟩ := b2 h
          obtain ⟨h1, z2⟩ := b2 h
          obtain ⟨h2, z3⟩ := b2 z2
          obtain ⟨h3, z4⟩ := b2 z3
          obtain ⟨h4, z5⟩ := b2 z4
          obtain ⟨h5, h6⟩ := b2 z5
          cases ofd h1
          cases ofd h2
          exact snd_val (ok_lrg1 C h0 h3 h4 h5 (soundE a C l h6).1)
      | _ => cases h
    | _ => cases h
  | .lrg2 a b, wx, sc, X, C, py, h => by
    cases py with
    | Call fn ls ks p =>
      cases fn with
      | Name x xp =>
        match ls, ks, h with
        | [.Call (.Name y yp) [l, r] [] pp], [], h =>
          obtain ⟨h0, h⟩ := b2 h
          obtain ⟨h1, z2⟩ := b2 h
          obtain ⟨h2, z3⟩ := b2 z2
          obtain ⟨h3, z4⟩ := b2 z3
          obtain ⟨h4, z5⟩ := b2 z4
          obtain ⟨h5, z6⟩ := b2 z5
          obtain ⟨h6, z7⟩ := b2 z6
          obtain ⟨h7, h8⟩ := b2 z7
          cases ofd h1
          cases ofd h2
          exact snd_val (ok_lrg2 C h0 h3 h4 h5 h6 (soundE a C l h7).1 (soundE b C r h8).1)
      | _ => cases h
    | _ => cases h
  | .idx a b, wx, sc, X, C, py, h => by
    cases py with
    | Call fn ls ks p =>
      cases fn with
      | Attribute l m ap =>
        match ls, ks, h with
        | [r], [], h =>
          obtain ⟨h1, h2⟩ := b2 h
          obtain ⟨h2, h3⟩ := b2 h2
          obtain ⟨h3, h4⟩ := b2 h3
          obtain ⟨h4, h5⟩ := b2 h4
          obtain ⟨h5, h6⟩ := b2 h5
          cases ofd h1
          exact snd_val (ok_idx C.hu h2 h3 h4 (soundE a C l h5).1 (soundE b C r h6).1)
      | _ => cases h
    | _ => cases h
  | .bits a, wx, sc, X, C, py, h => by
    cases py with
    | Call fn ls ks p =>
      cases fn with
      | Attribute l m ap =>
        match ls, ks, h with
        | [], [], h =>
          obtain ⟨h1, h2⟩ := b2 h
          obtain ⟨h2, h3⟩ := b2 h2
          obtain ⟨h3, h4⟩ := b2 h3
          cases ofd h1
          exact snd_val (ok_bits h3 h2 (soundE a C l h4).1)
      | _ => cases h
    | _ => cases h
  | .revl a, wx, sc, X, C, py, h => by
    cases py with
    | Subscript l ix p =>
      match ix, h with
      | .Slice none none (some (.UnaryOp .USub (.Constant (.int 1) _ _) _)) _, h => exact snd_val (ok_revl (soundE a C l h).1)
    | _ => cases h
  | .revs a, wx, sc, X, C, py, h => by
    cases py with
    | Subscript l ix p =>
      match ix, h with
      | .Slice none none (some (.UnaryOp .USub (.Constant (.int 1) _ _) _)) _, h => exact snd_val (ok_revs (soundE a C l h).1)
    | _ => cases h
  | .sl a l lo hh hi, wx, sc, X, C, py, h => by
    cases py with
    | Subscript x ix p =>
      match ix, h with
      | .Slice pl ph none _, h =>
        obtain ⟨h1, h2⟩ := b2 h
        obtain ⟨h2, h3⟩ := b2 h2
        refine snd_val (ok_sl (soundE a C x h1).1 (ok_part ?_) (ok_part ?_))
        · match l, pl, h2 with
          | true, some e, h2 => exact (soundE lo C e h2).1
          | false, none, _ => trivial
        · match hh, ph, h3 with
          | true, some e, h3 => exact (soundE hi C e h3).1
          | false, none, _ => trivial
    | _ => cases h
  | .fld a f, wx, sc, X, C, py, h => by
    cases py with
    | Attribute l m p =>
      obtain ⟨h1, h2⟩ := b2 h
      obtain ⟨h2, h3⟩ := b2 h2
      obtain ⟨h3, h4⟩ := b2 h3
      cases ofd h1
      exact snd_val (ok_fld C (ofd h2) h3 (soundE a C l h4).1)
    | _ => cases h
  | .meth a m es, wx, sc, X, C, py, h => by
    cases py with
    | Call fn ls ks p =>
      cases fn with
      | Attribute l m' ap =>
        cases ks with
        | nil =>
          obtain ⟨h0, h1⟩ := b2 h
          obtain ⟨h1, h2⟩ := b2 h1
          obtain ⟨h2, h3⟩ := b2 h2
          obtain ⟨h3, h4⟩ := b2 h3
          obtain ⟨h4, h5⟩ := b2 h4
          obtain ⟨h5, h6⟩ := b2 h5
          cases ofd h1
          exact snd_val (ok_meth C h0 h2 (ofd h3) h4 (all_star h6) (soundE a C l h5).1 (soundEs es C ls h6) (nil_es h6))
        | cons _ _ => cases h
      | _ => cases h
    | _ => cases h
  | .make c g es, wx, sc, X, C, py, h => by
    cases py with
    | Call fn ls ks p =>
      cases fn with
      | Name x xp =>
        cases ks with
        | nil =>
          obtain ⟨h0, h1⟩ := b2 h
          obtain ⟨h1, h2⟩ := b2 h1
          obtain ⟨h2, h3⟩ := b2 h2
          obtain ⟨h3, h4⟩ := b2 h3
          exact snd_val (ok_make C h0 (ofd h1) h2 h3 (all_star h4) (soundEs es C ls h4) (nil_es h4))
        | cons _ _ => cases h
      | _ => cases h
    | _ => cases h
  | .popl a, wx, sc, X, C, py, h => by
    cases py with
    | Call fn ls ks p =>
      cases fn with
      | Attribute l m ap =>
        match ls, ks, h with
        | [], [], h =>
          obtain ⟨h1, h2⟩ := b2 h
          obtain ⟨h2, h3⟩ := b2 h2
          obtain ⟨h3, h4⟩ := b2 h3
          cases ofd h1
          exact snd_val (ok_popl h2 h3 (soundE a C l h4).1)
      | _ => cases h
    | _ => cases h
  | .mkbox a, wx, sc, X, C, py, h => by
    have s := soundE a C py h
    exact ⟨ok_mkbox s.1, s.2.imp fun σ H Q ⟨W, st, g, p⟩ => ⟨W, st, g, by
      have p : Post X.K ca ec wx W st σ H ((evE Γ a st).bind fun x st1 => (match x with
        | .new ds => Res.ok (Hd.val (.box st1.S.length)) { st1 with S := st1.S ++ [.lst ds] }
        | _ => .stuck)).truth (fun _ _ H' b => Q b H') := p
      show Post X.K ca ec wx W st σ H (evE Γ a st).truth (fun _ _ H' b => Q b H')
      cases e : evE Γ a st with
      | stuck => rw [e] at p; exact p.elim
      | exc c st1 => rw [e] at p; exact p
      | ok x st1 =>
        rw [e] at p
        cases x <;> exact p.elim⟩⟩
  | .app a e, wx, sc, X, C, py, h => by
    cases py with
    | Call fn ls ks p =>
      cases fn with
      | Attribute l m ap =>
        match ls, ks, h with
        | [r], [], h =>
          obtain ⟨h0, h1⟩ := b2 h
          obtain ⟨h1, h2⟩ := b2 h1
          obtain ⟨h2, h3⟩ := b2 h2
          obtain ⟨h3, h4⟩ := b2 h3
          obtain ⟨h4, h5⟩ := b2 h4
          cases ofd h0
          exact snd_val (ok_app h1 h2 h3 (soundE a C l h4).1 (soundE e C r h5).1)
      | _ => cases h
    | _ => cases h
theorem soundEs : ∀ (es : Es) {wx : WX} {sc : Scope} {X : Cx} (C : Okc Γ nm ca ec k wx calm sc X) (ls : List Expr), chkEs nm calm sc es ls = true → PA X ls (tA X.K ca ec wx (evEs Γ es))
  | .nil, wx, sc, X, C, ls, h => by
    cases ls with
    | nil => exact ok_nil
    | cons l ls => cases h
  | .cons e es, wx, sc, X, C, ls, h => by
    cases ls with
    | nil => cases h
    | cons l ls =>
      obtain ⟨h1, h2⟩ := b2 h
      obtain ⟨h2, h3⟩ := b2 h2
      exact ok_cons h1 (soundE e C l h2).1 (soundEs es C ls h3)
theorem soundI : ∀ (it : It) {wx : WX} {sc : Scope} {X : Cx} (C : Okc Γ nm ca ec k wx calm sc X) {tg : Expr} (py : Expr), chkI nm calm sc it tg py = true → PI X tg py (tI X.K ca ec wx (evI Γ it))
  | .rng1 a, wx, sc, X, C, tg, py, h => by
    cases py with
    | Call fn ls ks p =>
      cases fn with
      | Name x xp =>
        match ls, ks, h with
        | [l], [], h =>
          obtain ⟨h1, h2⟩ := b2 h
          obtain ⟨h2, h3⟩ := b2 h2
          obtain ⟨h3, h4⟩ := b2 h3
          cases ofd h1
          exact ok_rng1 C h2 h3 (soundE a C l h4).1
      | _ => cases h
    | _ => cases h
  | .rng2 a b, wx, sc, X, C, tg, py, h => by
    cases py with
    | Call fn ls ks p =>
      cases fn with
      | Name x xp =>
        match ls, ks, h with
        | [l, r], [], h =>
          obtain ⟨h1, h2⟩ := b2 h
          obtain ⟨h2, h3⟩ := b2 h2
          obtain ⟨h3, h4⟩ := b2 h3
          obtain ⟨h4, h5⟩ := b2 h4
          obtain ⟨h5, h6⟩ := b2 h5
          cases ofd h1
          exact ok_rng2 C h2 h3 h4 (soundE a C l h5).1 (soundE b C r h6).1
      | _ => cases h
    | _ => cases h
  | .enum a, wx, sc, X, C, tg, py, h => by
    cases tg with
    | Tuple elts kk tpos =>
      cases py with
      | Call fn ls ks p =>
        cases fn with
        | Name x xp =>
          match ls, ks, h with
          | [l], [], h =>
            obtain ⟨h1, h2⟩ := b2 h
            obtain ⟨h2, h3⟩ := b2 h2
            obtain ⟨h3, h4⟩ := b2 h3
            cases ofd h1
            exact ok_enum C h2 h3 (soundE a C l h4).1
        | _ => cases h
      | _ => cases h
    | _ => cases h
  | .zip a b, wx, sc, X, C, tg, py, h => by
    cases tg with
    | Tuple elts kk tpos =>
      cases py with
      | Call fn ls ks p =>
        cases fn with
        | Name x xp =>
          match ls, ks, h with
          | [l, r], [], h =>
            obtain ⟨h1, h2⟩ := b2 h
            obtain ⟨h2, h3⟩ := b2 h2
            obtain ⟨h3, h4⟩ := b2 h3
            obtain ⟨h4, h5⟩ := b2 h4
            obtain ⟨h5, h6⟩ := b2 h5
            cases ofd h1
            exact ok_zip C h2 h3 h4 (soundE a C l h5).1 (soundE b C r h6).1
        | _ => cases h
      | _ => cases h
    | _ => cases h
  | .str a, wx, sc, X, C, tg, py, h => ok_istr (soundE a C py h).1
  | .seq a, wx, sc, X, C, tg, py, h => ok_seq (soundE a C py h).1
end
end
end EV
namespace EV
open PySem PySem.Spec PyProof.Rows L2
theorem _root_.L2.PS.imp {X : Cx} {e : Stmt} {t t' : TS} (h : PS X e t) (i : ∀ D σ H, t' D σ H → t D σ H) : PS X e t' := ⟨fun pins s σ H D I q => h.run pins s σ H D I (i D σ H q)⟩
theorem _root_.L2.PSs.imp {X : Cx} {e : List Stmt} {t t' : TS} (h : PSs X e t) (i : ∀ D σ H, t' D σ H → t D σ H) : PSs X e t' := ⟨fun pins s σ H D I q => h.run pins s σ H D I (i D σ H q)⟩
section
variable {K : PySem.W.Frag} {ca : Ci} {ec : Nat → Addr} {wx : WX} {W W0 : Wd} {st st0 : Sta} {σ : L2.St} {H H0 : Hp} {Q : VK} {α β : Type} {v : V}
/-- an expression's run within a statement's, the base kept -/
theorem PostS.toE0 {r : Res α} {f : α → Sta → Res β} {P : Wd → Sta → L2.St → Hp → β → Prop} (h : PostS K ca ec wx W st H (r.bind f) P) :
    Post K ca ec wx W st σ H r fun W' st' H' a => PostS K ca ec wx W st H (f a st') P := by
  cases r with
  | ok a st' => exact fun W' H' fr g => h
  | exc c st' => exact fun W' H' fr g => h W' σ H' fr g
  | stuck => exact h
theorem RepH.vn {W1 : Wd} {st1 : Sta} {H1 : Hp} {σ' : L2.St} {h : Hd} (e : (Fl.rt h).vn = true) (r : RepH K W0 st0 H0 W1 st1 σ H1 v h) : RepH K W0 st0 H0 W1 st1 σ' H1 v h := by
  cases h with
  | own i => cases e
  | fld n f => cases e
  | _ => exact r
/-- a statement's continuation, seen from a later state -/
theorem flow_early {W1 : Wd} {st1 : Sta} {H1 : Hp} {D : Ends} {W' : Wd} {st' : Sta} {σ' : L2.St} {H' : Hp} {fl : Fl} (f : Frm W st H W1 st1 H1) (p : flowP K W st H D W' st' σ' H' fl) : flowP K W1 st1 H1 D W' st' σ' H' fl := by
  cases fl with
  | rt h => exact fun v r => p v (r.early f)
  | _ => exact p
theorem asg_run {t : Tg} {own : Bool} {m : Sta → Res Hd} {D : Ends} (h : tS K ca ec wx (fun st => (m st).bind fun x st1 => (if own then (match t, x with
      | .name i, .new ds => if i < st1.env.length then .ok .nx (st1.setE i (.own ds)) else .stuck
      | .name i, .newd kvs => if i < st1.env.length then .ok .nx (st1.setE i (.ownd kvs)) else .stuck
      | _, _ => .stuck)
    else (match x.dt with
      | some d => (match t.set st1 d with
        | some st2 => .ok .nx st2
        | none => .stuck)
      | none => .stuck))) D σ H) : tE K ca ec wx m σ H fun v H1 => tG K ca t v σ H1 D.nx ∨ ∃ i, t = .name i ∧ D.nx (σ.set i (some v)) H1 := by
  obtain ⟨W, st, g, p⟩ := h
  refine ⟨W, st, g, (PostS.toE0 (σ := σ) p).mono fun W1 st1 H1 x f1 g1 p1 v r1 => ?_⟩
  cases own with
  | true =>
    cases t with
    | tup is => exact p1.elim
    | name i =>
      cases x with
      | new ds =>
        have p1 : PostS K ca ec wx W st H (if i < st1.env.length then Res.ok .nx (st1.setE i (.own ds)) else .stuck) (flowP K W st H D) := p1
        by_cases hi : i < st1.env.length
        · rw [if_pos hi] at p1
          obtain ⟨q, vs, rfl, h1, h2, h3, h4, h5⟩ := r1
          obtain ⟨f2, g2⟩ := own_slot (sl := .own ds) hi rfl f1 g1 h3 h4 h5 ⟨by rw [setm_same], vs, by rw [setm_same]; exact h1, h2.ext ext_slot⟩
          exact .inr ⟨i, rfl, p1 _ _ H1 f2 g2⟩
        · rw [if_neg hi] at p1; exact p1.elim
      | newd kvs =>
        have p1 : PostS K ca ec wx W st H (if i < st1.env.length then Res.ok .nx (st1.setE i (.ownd kvs)) else .stuck) (flowP K W st H D) := p1
        by_cases hi : i < st1.env.length
        · rw [if_pos hi] at p1
          obtain ⟨q, vs, rfl, h1, h2, h3, h4, h5⟩ := r1
          obtain ⟨f2, g2⟩ := own_slot (sl := .ownd kvs) hi rfl f1 g1 h3 h4 h5 ⟨by rw [setm_same], vs, by rw [setm_same]; exact h1, h2.ext ext_slot⟩
          exact .inr ⟨i, rfl, p1 _ _ H1 f2 g2⟩
        · rw [if_neg hi] at p1; exact p1.elim
      | _ => exact p1.elim
  | false =>
    have p1 : PostS K ca ec wx W st H (match x.dt with
      | some d => (match t.set st1 d with
        | some st2 => Res.ok .nx st2
        | none => .stuck)
      | none => .stuck) (flowP K W st H D) := p1
    cases ed : x.dt with
    | none => rw [ed] at p1; exact p1.elim
    | some d =>
      rw [ed] at p1
      have p1 : PostS K ca ec wx W st H (match t.set st1 d with
        | some st2 => Res.ok .nx st2
        | none => .stuck) (flowP K W st H D) := p1
      cases es : t.set st1 d with
      | none => rw [es] at p1; exact p1.elim
      | some st2 =>
        rw [es] at p1
        obtain ⟨W2, f2, g2, r2, _⟩ := dt_rep f1 g1 r1 ed
        exact .inl ⟨W2, st1, d, st2, g2, r2, es, fun W3 σ3 kp f3 g3 => p1 W3 σ3 H1 (f2.trans f3) g3⟩
theorem tG_name {i : Nat} {Q : L2.St → Hp → Prop} (h : tG K ca (.name i) v σ H Q ∨ ∃ j, Tg.name i = .name j ∧ Q (σ.set j (some v)) H) : Q (σ.set i (some v)) H := by
  rcases h with ⟨W, st, d, st1, g, r, e, q⟩ | ⟨j, e, q⟩
  · cases e
    exact q W _ (Keep.set (by simp [Tg.slots])) ((Frm.refl W st H).setV rfl) (g.setV rfl ⟨v, rfl, r⟩)
  · cases e; exact q
end
section
variable {ca : Ci} {ec : Nat → Addr} {Γ : Gm} {nm : Nm} {k : Nat} {calm : Bool} {wx : WX} {sc : Scope} {X : Cx}
/-- what an expression's store on one line asks besides -/
theorem soundLc : ∀ (e : E) {wx : WX} {sc : Scope} {X : Cx} (C : Okc Γ nm ca ec k wx calm sc X) (el t i : Expr) (ifs : List Expr) (scope : Scope) (pos : Pos) (gs : List Comprehension), chkE nm calm sc e (.ListComp el gs scope pos) = true →
    ∃ tl : TE, (∀ {j : Nat} {y : Str} {py spos : Pos}, nm.N[j]? = some y → sc.names.lookup y = some .local → swapsWith (.ListComp el gs scope pos) (some (.Name y py)) spos.line X.env = pure true →
      PS X (.Assign [.Name y py] (.ListComp el gs scope pos) spos) (tAsg tl (gName j))) ∧ ∀ σ H Q, tE X.K ca ec wx (evE Γ e) σ H Q → tl σ H Q
  | .comp elt it tg cond own, wx, sc, X, C, el, t, i, ifs, scope, pos, gs, h => by
    match gs, h with
    | [⟨t, i, ifs, 0⟩], h =>
      obtain ⟨h0, h1⟩ := b2 h
      obtain ⟨h1, h2⟩ := b2 h1
      obtain ⟨h2, h3⟩ := b2 h2
      obtain ⟨h3, h4⟩ := b2 h3
      obtain ⟨h4, h5⟩ := b2 h4
      obtain ⟨h5, h6⟩ := b2 h5
      obtain ⟨h6, h7⟩ := b2 h6
      have ok : BlkOk X.N X.env.scope scope (own2 nm own) := blkOk_by (by rw [C.hN, C.hsc]; exact h1)
      refine ⟨tLc (tI X.K ca ec wx (evI Γ it)) (tG X.K ca tg) (tT X.K ca ec wx0 fun s => (evE Γ cond s).truth) (tE X.K ca ec wx0 (evE Γ elt)) ((own2 nm own).map (·.2)), fun {j y py spos} hj hy hsw => ?_, fun σ H Q q => by rw [own2_map]; exact comp_of (mc := fun s => (evE Γ cond s).truth) h5 q⟩
      refine ps_setLc (own := own2 nm own) (C.cl h0) (by rw [C.hN]; exact C.nd) (by rw [C.hN]; exact hj) (by rw [C.hsc]; exact hy) hsw (soundI it C i h3) ok (fun s H D cl fp => tg_ok (X := X.blk s H scope (compEnvC scope cl D X.env) fp) (ca := ca) (TgOk.blk C h0) h4) (fun s H D cl fp => ?_) (fun s H D cl fp => ?_) (fold_of h2)
      · match ifs, cond, h6 with
        | [], .cst (.bl true), _ => exact ⟨fun pins s' σ H' Q I q => pts_nil.run pins s' σ H' Q I (by
            obtain ⟨W, st, g, p⟩ := q
            exact p W H' (.refl ..) g)⟩
        | [c], cond, h6 => exact pts_one (soundE cond (C.blk h0 takes0) c h6).2
      · exact (soundE elt (C.blk h0 takes0) el h7).1
  | .comp2 elt it tg it1 tg1 own own1, wx, sc, X, C, el, t, i, ifs, scope, pos, gs, h => by
    match gs, h with
    | [⟨t, i, [], 0⟩, ⟨t1, i1, [], 0⟩], h =>
      obtain ⟨h0, h1⟩ := b2 h
      obtain ⟨h1, h2⟩ := b2 h1
      obtain ⟨h2, h3⟩ := b2 h2
      obtain ⟨h3, h4⟩ := b2 h3
      obtain ⟨h4, h5⟩ := b2 h4
      obtain ⟨h5, h6⟩ := b2 h5
      obtain ⟨h6, h7⟩ := b2 h6
      obtain ⟨h7, h8⟩ := b2 h7
      obtain ⟨h8, h9⟩ := b2 h8
      obtain ⟨h9, h10⟩ := b2 h9
      obtain ⟨h10, h11⟩ := b2 h10
      have ok : BlkOk X.N X.env.scope scope (own2 nm own) := blkOk_by (by rw [C.hN, C.hsc]; exact h1)
      have hs2 : ∀ i ∈ own1, i ∈ own := fun i hi => of_decide_eq_true (List.all_eq_true.mp h10 i hi)
      refine ⟨tLc2 (tI X.K ca ec wx (evI Γ it)) (tG X.K ca tg) (fun _ H Q => Q true H) (tI X.K ca ec wx0 (evI Γ it1)) (tG X.K ca tg1) (fun _ H Q => Q true H) (tE X.K ca ec wx0 (evE Γ elt)) ((own2 nm own).map (·.2)) own1, fun {j y py spos} hj hy hsw => ?_, fun σ H Q q => by rw [own2_map]; exact comp2_of h8 h9 hs2 q⟩
      exact ps_setLc2 (own := own2 nm own) (vs1 := own1) (C.cl h0) (by rw [C.hN]; exact C.nd) (by rw [C.hN]; exact hj) (by rw [C.hsc]; exact hy) hsw (soundI it C i h4) ok (by rw [own2_map]; exact hs2)
        (fun s H D cl fp => tg_ok (X := X.blk s H scope (compEnvC scope cl D X.env) fp) (ca := ca) (TgOk.blk C h0) h6) (fun s H D cl fp => pts_nil) (fun s H D cl fp => soundI it1 (C.blk h0 takes0) i1 h5) (fun s H D cl fp => tg_ok (X := X.blk s H scope (compEnvC scope cl D X.env) fp) (ca := ca) (TgOk.blk C h0) h7) (fun s H D cl fp => pts_nil)
        (fun s H D cl fp => (soundE elt (C.blk h0 takes0) el h11).1) (fold_of h2) (fun _ => fold_of h3)
  | .mkbox a, wx, sc, X, C, el, t, i, ifs, scope, pos, gs, h => by
    obtain ⟨tl, h1, h2⟩ := soundLc a C el t i ifs scope pos gs h
    refine ⟨tl, h1, fun σ H Q ⟨W, st, g, p⟩ => h2 σ H Q ⟨W, st, g, p.bind0.mono fun W1 st1 H1 x f1 g1 p1 v r1 => ?_⟩⟩
    cases x with
    | new ds =>
      obtain ⟨W2, f2, g2, r2⟩ := new_box f1 g1 r1
      exact p1 W2 H1 f2 g2 v r2
    | _ => exact p1.elim
  | .var _, _, _, _, _, _, _, _, _, _, _, _, h => by cases h
  | .cst _, _, _, _, _, _, _, _, _, _, _, _, h => by cases h
  | .glob _, _, _, _, _, _, _, _, _, _, _, _, h => by cases h
  | .bin _ _ _, _, _, _, _, _, _, _, _, _, _, _, h => by cases h
  | .cmp _ _ _, _, _, _, _, _, _, _, _, _, _, _, h => by cases h
  | .chain _ _ _ _ _, _, _, _, _, _, _, _, _, _, _, _, h => by cases h
  | .ix _ _, _, _, _, _, _, _, _, _, _, _, _, h => by cases h
  | .un _ _, _, _, _, _, _, _, _, _, _, _, _, h => by cases h
  | .not _, _, _, _, _, _, _, _, _, _, _, _, h => by cases h
  | .and _ _, _, _, _, _, _, _, _, _, _, _, _, h => by cases h
  | .or _ _, _, _, _, _, _, _, _, _, _, _, _, h => by cases h
  | .ife _ _ _, _, _, _, _, _, _, _, _, _, _, _, h => by cases h
  | .tup _, _, _, _, _, _, _, _, _, _, _, _, h => by cases h
  | .lst _, _, _, _, _, _, _, _, _, _, _, _, h => by cases h
  | .call _ _, _, _, _, _, _, _, _, _, _, _, _, h => by cases h
  | .blt _ _, _, _, _, _, _, _, _, _, _, _, _, h => by cases h
  | .blt2 _ _ _, _, _, _, _, _, _, _, _, _, _, _, h => by cases h
  | .isi _ _, _, _, _, _, _, _, _, _, _, _, _, h => by cases h
  | .exi _ _, _, _, _, _, _, _, _, _, _, _, _, h => by cases h
  | .find _ _, _, _, _, _, _, _, _, _, _, _, _, h => by cases h
  | .pop _ _, _, _, _, _, _, _, _, _, _, _, _, h => by cases h
  | .dnew, _, _, _, _, _, _, _, _, _, _, _, h => by cases h
  | .dix _ _, _, _, _, _, _, _, _, _, _, _, _, h => by cases h
  | .din _ _ _, _, _, _, _, _, _, _, _, _, _, _, h => by cases h
  | .sset _, _, _, _, _, _, _, _, _, _, _, _, h => by cases h
  | .lrg1 _, _, _, _, _, _, _, _, _, _, _, _, h => by cases h
  | .lrg2 _ _, _, _, _, _, _, _, _, _, _, _, _, h => by cases h
  | .idx _ _, _, _, _, _, _, _, _, _, _, _, _, h => by cases h
  | .bits _, _, _, _, _, _, _, _, _, _, _, _, h => by cases h
  | .revl _, _, _, _, _, _, _, _, _, _, _, _, h => by cases h
  | .revs _, _, _, _, _, _, _, _, _, _, _, _, h => by cases h
  | .sl _ _ _ _ _, _, _, _, _, _, _, _, _, _, _, _, h => by cases h
  | .frz _, _, _, _, _, _, _, _, _, _, _, _, h => by cases h
  | .app _ _, _, _, _, _, _, _, _, _, _, _, _, h => by cases h
  | .fld _ _, _, _, _, _, _, _, _, _, _, _, _, h => by cases h
  | .meth _ _ _, _, _, _, _, _, _, _, _, _, _, _, h => by cases h
  | .make _ _ _, _, _, _, _, _, _, _, _, _, _, _, h => by cases h
  | .popl _, _, _, _, _, _, _, _, _, _, _, _, h => by cases h
/-- the facts of a body's statements -/
structure Oks (Γ : Gm) (nm : Nm) (ca : Ci) (ec : Nat → Addr) (k : Nat) (wx : WX) (calm : Bool) (sc : Scope) (X : Cx) : Prop where
  E : Okc Γ nm ca ec k wx calm sc X
  loc : ∀ x, locB sc x = true → X.fn x = true ∨ sc.names.lookup x = some .local
  pass : PassesOwn (model X.prog X.w) X.A X.env X.xe
  stk : calm = true → X.stack = X.env :: X.outer
  frm : calm = true → X.env.frame = some X.env.locals
  kind : sc.kind = .function
  rai : ∀ (c : Nat) (x : Str), nm.ex[c]? = some x → PySem.W.excIn X.K (ec c) He.veBase "ValueError.__new__" = true ∧ PySem.W.keepIn X.K (.ref (ec c)) = true ∧ PySem.W.subIn X.K (.ref (ec c)) (.type "BaseException") = some true ∧ PySem.W.typeIn X.K (.ref (ec c)) = some (.type "type")
  exm : ∀ (d c : Nat) (x : Str), d < Γ.nex → nm.ex[c]? = some x → PySem.W.exmOne X.K (.ref (ec d)) (.ref (ec c)) = some (Γ.sub d c)
  isx : ∀ (d : Nat), d < Γ.nex → ExcC X.K (ec d) ∧ ∀ (c : Nat) (y : Str), nm.ex[c]? = some y → PySem.W.kitOne X.K (.ref (ec d)) (.ref (ec c)) = some (Γ.sub d c)
theorem Oks.tg (C : Oks Γ nm ca ec k wx calm sc X) (hc : calm = true) : TgOk nm sc X := ⟨C.E.hN, C.E.nd, C.E.cl hc, fun x h => by
  rw [C.E.hsc]
  exact ⟨loc_of h, C.loc x h⟩⟩
theorem noLc {v : Expr} (h : isLc v = false) {tg : Option Expr} {l : Nat} {env : Env} : swapsWith v tg l env = pure false := by
  cases v <;> first | rfl | cases h
theorem lcN_no {sc : Scope} {tg v : Expr} {env : Env} (hs : env.scope = sc) (h : lcN sc tg = true) {l : Nat} : swapsWith v (some tg) l env = pure false := by
  cases tg with
  | Name y py =>
    have h : (match sc.names.lookup y with
      | some .cell => true
      | _ => false) = true := h
    have hy : sc.names.lookup y = some .cell := by
      split at h
      · assumption
      · cases h
    have ky : env.kindOf y = some .cell := by rw [← hs] at hy; exact hy
    have go : ∀ (b c d : Bool), (pure (b && env.kindOf y == some .local && c && d) : Sem Bool) = pure false := fun b c d => by
      rw [ky, show ((some NameKind.cell == some NameKind.local) = false) from rfl, Bool.and_false, Bool.false_and, Bool.false_and]
    cases v with
    | ListComp _ _ _ _ => exact go _ _ _
    | SetComp _ _ _ _ => exact go _ _ _
    | DictComp _ _ _ _ _ => exact go _ _ _
    | _ => rfl
  | _ => cases h
theorem noSw {tg v : Expr} {env : Env} (h : noSwap tg v = true) : swappedStores [tg] v env = pure none := by
  cases tg <;> cases v <;> first | rfl | cases h
theorem ok_asg {t : Tg} {own : Bool} {e : E} {tg v : Expr} {pos : Pos} (C : Oks Γ nm ca ec k wx calm sc X) (hc : calm = true) (hn : noSwap tg v = true) (ht : t.chk nm sc tg = true) (he : chkE nm calm sc e v = true)
    (hl : (!isLc v || (lcN sc tg || lcB sc tg v)) = true) : PS X (.Assign [tg] v pos) (tS X.K ca ec wx (evS Γ (.asg t own e))) := by
  cases q : (isLc v && !lcN sc tg) with
  | false =>
    have hs : swapsWithSole [tg] v pos.line X.env = pure false := by
      cases q1 : isLc v with
      | false => exact noLc q1
      | true =>
        rw [q1] at q
        exact lcN_no C.E.hsc (by simpa using q)
    have h1 : (assignEach [tg] X.env).map (·.2) = [assign tg X.env] := by
      unfold Tg.chk at ht
      split at ht
      · rfl
      · rfl
      · cases ht
    have pg : PG X tg (fun w σ H Q => tG X.K ca t w σ H Q ∨ ∃ i, t = .name i ∧ Q (σ.set i (some w)) H) := by
      refine ⟨fun pins s σ H w u Q I r h => ?_⟩
      rcases h with h | ⟨i, rfl, h⟩
      · exact (tg_ok (C.tg hc) ht).run pins s σ H w u Q I r h
      · cases tg with
        | Name x p =>
          obtain ⟨t1, t2⟩ := b2 (show (decide (nm.N[i]? = some x) && locB sc x) = true from ht)
          obtain ⟨l1, l2⟩ := (C.tg hc).loc x t2
          exact (pg_name (X := X) (pos := p) (by rw [C.E.hN]; exact C.E.nd) (by rw [C.E.hN]; exact ofd t1) l1 l2).run pins s σ H w u Q I r h
        | _ => cases ht
    exact (ps_asg (soundE e C.E v he).1 pg hs (noSw hn) h1).imp fun D σ H p => asg_run p
  | true =>
    obtain ⟨q1, q2⟩ := b2 q
    have hl : lcB sc tg v = true := by
      rw [q1] at hl
      simpa [noM q2] using hl
    cases tg with
    | Name y py =>
      have hl : swB sc y py v = true := hl
      cases v with
      | ListComp el gs scope vp =>
        have hl : ((match sc.names.lookup y with
          | some .local => true
          | _ => false) && ((py.line == vp.line) && !(scope.names.any fun (n, k) => n == y && (k == .local || k == .cell)))) = true := hl
        obtain ⟨l1, l2⟩ := b2 hl
        obtain ⟨l2, l3⟩ := b2 l2
        have ll : sc.names.lookup y = some .local := by
          split at l1
          · assumption
          · cases l1
        cases t with
        | name i =>
          have ht : (decide (nm.N[i]? = some y) && locB sc y) = true := ht
          obtain ⟨tl, h1, h2⟩ := soundLc e C.E el el el [] scope vp gs he
          refine (h1 (j := i) (py := py) (spos := pos) (ofd (b2 ht).1) ll (sw_true (by rw [C.E.hsc]; exact C.kind) (by rw [C.E.hsc]; exact ll) l2 (noM l3))).imp fun D σ H p => ?_
          have z := asg_run (t := .name i) p
          obtain ⟨W, st, g, pp⟩ := z
          exact h2 σ H _ ⟨W, st, g, pp.mono fun W1 st1 H1 x f1 g1 p1 w r1 => tG_name (p1 w r1)⟩
        | tup is => cases ht
      | _ => cases hl
    | _ => cases hl
def tAugD (o : BOp) : TIp := fun x y H Q => ∃ i j c, x = .int i ∧ y = .int j ∧ augD o i j = some c ∧ Q (.int c) H
theorem ip_aug (o : BOp) : PIp X (opO o) (tAugD o) := by
  intro pins s σ H x y v u Q I r1 r2 ⟨i, j, c, e1, e2, e, q⟩
  unfold augD at e
  split at e
  · cases e; exact ip_add pins s σ H x y v u Q I r1 r2 ⟨i, j, e1, e2, q⟩
  · cases e; exact ip_sub pins s σ H x y v u Q I r1 r2 ⟨i, j, e1, e2, q⟩
  · split at e
    · rename_i hm
      cases e
      unfold mulOk at hm
      simp only [Bool.or_eq_true, Bool.and_eq_true, decide_eq_true_eq] at hm
      exact iop_mul pins s σ H x y v u Q I r1 r2 ⟨i, j, e1, e2, hm, q⟩
    · cases e
  · cases e; exact iop_or pins s σ H x y v u Q I r1 r2 ⟨i, j, e1, e2, q⟩
  · cases e
theorem ok_aug {i : Nat} {o : BOp} {m : Sta → Res Hd} {x : Str} {v : Expr} {p pos : Pos} (C : Oks Γ nm ca ec k wx calm sc X) (hi : nm.N[i]? = some x) (hl : locB sc x = true) (h : PE X v (tE X.K ca ec wx m)) :
    PS X (.AugAssign (.Name x p) (opO o) v pos) (tS X.K ca ec wx fun st => (match st.env[i]? with
    | some (.val (.int a)) => (m st).bind fun y st1 => (match y with
      | .val (.int b) => (match augD o a b with
        | some c => .ok .nx (st1.setE i (.val (.int c)))
        | none => .stuck)
      | _ => .stuck)
    | _ => .stuck)) := by
  refine (ps_aug (i := i) (by rw [C.E.hN]; exact C.E.nd) (by rw [C.E.hN]; exact hi) (by rw [C.E.hsc]; exact loc_of hl) h (ip_aug o) (by rw [C.E.hsc]; exact C.loc x hl)).imp fun D σ H ⟨W, st, g, p⟩ => ?_
  dsimp only at p
  split at p
  · rename_i a e
    obtain ⟨y, e1, r⟩ := g.slot i _ e
    cases r
    refine ⟨_, getE e1, W, st, g, p.toE.mono fun W1 st1 H1 y f1 g1 p1 w r1 => ?_⟩
    split at p1
    · rename_i b
      cases r1
      cases ea : augD o a b with
      | none => rw [ea] at p1; exact p1.elim
      | some c =>
        rw [ea] at p1
        exact ⟨a, b, c, rfl, rfl, ea, p1 W1 _ H1 ((Frm.refl W1 st1 H1).setV rfl) (g1.setV rfl ⟨_, rfl, .int c⟩)⟩
    · exact p1.elim
  · exact p.elim
theorem ok_expr {m : Sta → Res Hd} {v : Expr} {pos : Pos} (hl : isLc v = false) (h : PE X v (tE X.K ca ec wx m)) : PS X (.Expr v pos) (tS X.K ca ec wx fun st => (m st).bind fun _ st1 => .ok .nx st1) :=
  (ps_expr h (noLc hl)).imp fun D σ H ⟨W, st, g, p⟩ => ⟨W, st, g, p.toE.mono fun W1 st1 H1 y f1 g1 p1 w r1 => p1 W1 σ H1 (.refl ..) g1⟩
theorem ok_ret {m : Sta → Res Hd} {v : Expr} {pos : Pos} (h : PE X v (tE X.K ca ec wx m)) : PS X (.Return (some v) pos) (tS X.K ca ec wx fun st => (m st).bind fun x st1 => (match x with
    | .val d => .ok (.rt (.val d)) st1
    | .new ds => .ok (.rt (.new ds)) st1
    | .newd ds => .ok (.rt (.newd ds)) st1
    | .own i => (match st1.env[i]? with
      | some (.own ds) => .ok (.rt (.new ds)) (st1.setE i .none)
      | _ => .stuck)
    | _ => .stuck)) := (ps_ret h).imp fun D σ H ⟨W, st, g, p⟩ => ⟨W, st, g, (PostS.toE0 (σ := σ) p).mono fun W1 st1 H1 x f1 g1 p1 v r1 => by
  split at p1
  · exact p1 W1 σ H1 f1 g1 v r1
  · exact p1 W1 σ H1 f1 g1 v r1
  · exact p1 W1 σ H1 f1 g1 v r1
  · rename_i i
    split at p1
    · rename_i ds e
      obtain ⟨e1, vs, h1, t⟩ := g1.slot i _ e
      have r1 : σ[i]? = some (some v) := r1
      have ev : v = .ref (W1.m (.slot i)) := by
        rw [r1] at e1; simpa using e1
      subst ev
      have lv : Live st1 (.slot i) := ⟨_, e, rfl⟩
      refine p1 W1 σ H1 (f1.setV rfl) (g1.setE rfl trivial) _ ⟨_, vs, rfl, h1, t, g1.out _ lv, fun ⟨o, l, e⟩ => ?_, (f1.fresh _ ⟨_, lv, rfl⟩).symm⟩
      obtain ⟨l1, l2⟩ := live_setE (sl := .none) rfl l
      exact l2 (g1.inj _ _ l1 lv e)
    · exact p1.elim
  · exact p1.elim⟩
theorem ok_setix {a i : Sta → Res Hd} {e : Sta → Res Dt} {m : Sta → Res Hd} {l r v : Expr} {p pos : Pos} (hl : isLc v = false) (hx : ixB r = true) (he : PE X v (tE X.K ca ec wx m)) (ha : PE X l (tE X.K ca ec wx a)) (hi : PE X r (tE X.K ca ec wx i)) :
    PS X (.Assign [.Subscript l r p] v pos) (tS X.K ca ec wx fun st => (m st).dt.bind fun d st1 => (a st1).bind fun x st2 => (behind x i st2).bind fun y st3 => (match y with
    | .val (.int k) => (match setD st3 x k d with
      | some st4 => .ok .nx st4
      | none => .stuck)
    | _ => .stuck)) := by
  have pg : PG X (.Subscript l r p) (gSub (tE X.K ca ec wx a) (tE X.K ca ec wx i) rSetL) := pg_sub ha hi set_list (by intro w; cases r <;> first | rfl | cases hx)
  refine (ps_asg he pg (noLc (tg := some (.Subscript l r p)) (l := pos.line) (env := X.env) hl) (noSw (by rfl)) (by rfl)).imp fun D σ H ⟨W, st, g, p⟩ => ?_
  have p' : Post X.K ca ec wx W st σ H (m st).dt (fun W' st' H' d => PostS X.K ca ec wx W' st' H' _ (flowP X.K W st H D)) := p.toE
  refine ⟨W, st, g, (dt_run p').mono fun W1 st1 H1 h f1 g1 p1 w rw_ => ?_⟩
  obtain ⟨d, W2, f2, g2, rd, _, p2⟩ := p1 w rw_
  refine ⟨W2, st1, g2, p2.toE.mono fun W3 st3 H3 x f3 g3 p3 u ru => ?_⟩
  obtain ⟨st3', g3', hb, p4⟩ := behind_run g3 ru p3.toE
  refine ⟨W3, st3', g3', p4.mono fun W4 st4' H4 y f4 g4' ⟨b, g4, f4', ru', p5⟩ z rz => ?_⟩
  show rSetL u z w H4 _
  have hk : ∃ kk, y = .val (.int kk) := by
    cases y with
    | val dy =>
      cases dy with
      | int kk => exact ⟨kk, rfl⟩
      | _ => exact p5.elim
    | _ => exact p5.elim
  obtain ⟨kk, rfl⟩ := hk
  · cases rz
    have rd' : Rep X.K W4 w d := rd.ext (f3.ext.trans f4'.ext)
    generalize st4'.setro b = st5 at g4 f4' ru' p5
    cases x with
    | own j =>
      have p5 : PostS X.K ca ec wx W4 st5 H4 (match (match st5.env[j]? with
        | some (.own ds) => (ixN ds.length kk).map fun q => st5.setE j (.own (ds.set q d))
        | _ => none) with
        | some st4 => Res.ok .nx st4
        | none => .stuck) (flowP X.K W st H D) := p5
      split at p5
      · rename_i st6 q
        split at q
        · rename_i ds e1
          cases ei : ixN ds.length kk with
          | none => rw [ei] at q; cases q
          | some jj =>
            rw [ei] at q
            cases q
            obtain ⟨e2, vs, h1, t⟩ := g4.slot j _ e1
            have e3 : u = .ref (W4.m (.slot j)) := by
              have ru' : σ[j]? = some (some u) := ru'
              rw [ru'] at e2; simpa using e2
            subst e3
            refine ⟨_, vs, kk, jj, rfl, rfl, h1, by rw [t.length]; exact ei, ?_⟩
            obtain ⟨f6, g6⟩ := mut_slot (sl' := .own (ds.set jj d)) (ob := .lst (vs.set jj w)) e1 rfl rfl (.refl W4 st5 H4) g4 ⟨rfl, _, upd_same, t.set rd' jj⟩
            exact p5 W4 _ _ f6 g6
        · cases q
      · exact p5.elim
    | val dd =>
      cases dd with
      | box n =>
        have p5 : PostS X.K ca ec wx W4 st5 H4 (match (if st5.ro then none else (match st5.S[n]? with
          | some (.lst ds) => (ixN ds.length kk).map fun q => { st5 with S := st5.S.set n (.lst (ds.set q d)) }
          | _ => none)) with
          | some st4 => Res.ok .nx st4
          | none => .stuck) (flowP X.K W st H D) := p5
        split at p5
        · rename_i st6 q
          split at q
          · cases q
          · rename_i hro
            split at q
            · rename_i ds e1
              cases ei : ixN ds.length kk with
              | none => rw [ei] at q; cases q
              | some jj =>
                rw [ei] at q
                cases q
                obtain ⟨vs, h1, t⟩ := g4.obj n _ e1
                cases ru'
                refine ⟨_, vs, kk, jj, rfl, rfl, h1, by rw [t.length]; exact ei, ?_⟩
                obtain ⟨f6, g6⟩ := mut_box (ob' := .lst (ds.set jj d)) (ho := .lst (vs.set jj w)) e1 ⟨_, rfl⟩ ⟨_, rfl⟩ (by simpa using hro) (.refl W4 st5 H4) g4 ⟨_, upd_same, t.set rd' jj⟩
                exact p5 W4 _ _ f6 g6
            · cases q
        · exact p5.elim
      | _ => exact p5.elim
    | fld n f =>
      have p5 : PostS X.K ca ec wx W4 st5 H4 (match (match ownF st5 n f with
        | some (c, fs, .own ds) => (ixN ds.length kk).map fun q => st5.setF n c fs f (.own (ds.set q d))
        | _ => none) with
        | some st4 => Res.ok .nx st4
        | none => .stuck) (flowP X.K W st H D) := p5
      split at p5
      · rename_i st6 q
        split at q
        · rename_i c fs ds e0
          obtain ⟨hro, e1, e2⟩ := ownF_of e0
          cases ei : ixN ds.length kk with
          | none => rw [ei] at q; cases q
          | some jj =>
            rw [ei] at q
            cases q
            obtain ⟨vs, h1, t⟩ := fldO_rel g4 e1 e2
            have ea : u = .ref (W4.m (.fld n f)) := ru'.1
            subst ea
            refine ⟨_, vs, kk, jj, rfl, rfl, h1, by rw [t.length]; exact ei, ?_⟩
            obtain ⟨f6, g6⟩ := mut_fld (x := .own (ds.set jj d)) (ob := .lst (vs.set jj w)) e1 e2 rfl rfl hro (.refl W4 st5 H4) g4 ⟨rfl, _, upd_same, t.set rd' jj⟩
            exact p5 W4 _ _ f6 g6
        · cases q
      · exact p5.elim
    | _ => exact p5.elim
theorem ok_dput {a i : Sta → Res Hd} {m : Sta → Res Hd} {l r v : Expr} {p pos : Pos} (hu : X.A.units + 66 < cLine) (hl : isLc v = false) (hx : ixB r = true) (he : PE X v (tE X.K ca ec wx m)) (ha : PE X l (tE X.K ca ec wx a)) (hi : PE X r (tE X.K ca ec wx i)) :
    PS X (.Assign [.Subscript l r p] v pos) (tS X.K ca ec wx fun st => (m st).dt.bind fun d st1 => (a st1).bind fun x st2 => (behind x i st2).bind fun y st3 => (match dputS st3 x y d with
      | some st4 => .ok .nx st4
      | none => .stuck)) := by
  refine (ps_dput (by omega) ha hi he (noLc (tg := some (.Subscript l r p)) (l := pos.line) (env := X.env) hl)).imp fun D σ H ⟨W, st, g, p⟩ => ?_
  have p' : Post X.K ca ec wx W st σ H (m st).dt (fun W' st' H' d => PostS X.K ca ec wx W' st' H' _ (flowP X.K W st H D)) := p.toE
  refine ⟨W, st, g, (dt_run p').mono fun W1 st1 H1 h f1 g1 p1 w rw_ => ?_⟩
  obtain ⟨d, W2, f2, g2, rd, _, p2⟩ := p1 w rw_
  refine ⟨W2, st1, g2, p2.toE.mono fun W3 st3 H3 x f3 g3 p3 u ru => ?_⟩
  obtain ⟨st3', g3', hb, p4⟩ := behind_run g3 ru p3.toE
  refine ⟨W3, st3', g3', p4.mono fun W4 st4' H4 y f4 g4' ⟨b, g4, f4', ru', p5⟩ z rz => ?_⟩
  have rz' := rz.setro (b := b) (b0 := st3'.ro)
  have rd' : Rep X.K W4 w d := rd.ext (f3.ext.trans f4'.ext)
  generalize st4'.setro b = st5 at g4 f4' ru' rz' p5
  split at p5
  · rename_i st6 q
    unfold dputS at q
    split at q
    · rename_i j kd hz
      split at q
      · rename_i kvs e1
        split at q
        · rename_i hk
          cases q
          obtain ⟨kk, hkk⟩ := Option.isSome_iff_exists.mp hk.1
          obtain ⟨e2, us, h1, t⟩ := g4.slot j _ e1
          have e3 : u = .ref (W4.m (.slot j)) := by
            have ru' : σ[j]? = some (some u) := ru'
            rw [ru'] at e2; simpa using e2
          subst e3
          obtain rfl := keyD_kV rz' hkk
          refine ⟨_, _, rfl, DPut.k h1 (by rw [t.length]; exact hk.2), ?_⟩
          obtain ⟨f6, g6⟩ := mut_slot (sl' := .ownd (dputD kvs kd d)) (ob := .dK (putK us kk w)) e1 rfl rfl (.refl W4 st5 H4) g4 ⟨rfl, _, upd_same, t.put hkk rd'⟩
          exact p5 W4 _ _ f6 g6
        · cases q
      · cases q
    · rename_i n f kd hz
      split at q
      · rename_i c fs kvs e0
        obtain ⟨hro, e1, e2⟩ := ownF_of e0
        split at q
        · rename_i hk
          cases q
          obtain ⟨kk, hkk⟩ := Option.isSome_iff_exists.mp hk.1
          obtain ⟨us, h1, t⟩ := fldD_rel g4 e1 e2
          have e3 : u = .ref (W4.m (.fld n f)) := ru'.1
          subst e3
          obtain rfl := keyD_kV rz' hkk
          refine ⟨_, _, rfl, DPut.k h1 (by rw [t.length]; exact hk.2), ?_⟩
          obtain ⟨f6, g6⟩ := mut_fld (x := .ownd (dputD kvs kd d)) (ob := .dK (putK us kk w)) e1 e2 rfl rfl hro (.refl W4 st5 H4) g4 ⟨rfl, _, upd_same, t.put hkk rd'⟩
          exact p5 W4 _ _ f6 g6
        · cases q
      · cases q
    · cases q
  · exact p5.elim
end
end EV
namespace EV
open PySem PySem.Spec PyProof.Rows L2
/-! statements on instances -/
/-- o.f = .., a part of a target -/
def gFld (K : PySem.W.Frag) (ta : TE) (f : Str) : TG := fun v σ H Q => ta σ H fun x H2 => ∃ a C dx fs, x = .ref a ∧ H2 a = some (.ins C dx fs) ∧ Cls K C ∧ NoAttr K C f ∧ fs.length < 1000 ∧ Q σ (upd H2 a (.ins C dx (putF f v fs)))
theorem pg_fld {X : Cx} {o : Expr} {f : Str} {pos : Pos} {ta : TE} (ho : PE X o ta) : PG X (.Attribute o f pos) (gFld X.K ta f) := by
  refine ⟨fun pins s σ H v u Q I r h => ?_⟩
  rw [assign_Attribute]
  refine wpAny_bind (wpAny_holding (thn (ho.run pins s σ H _ I h) fun ov s1 ⟨x, H2, I2, rx, a, C, dx, fs, ex, ea, c, n, l, q2⟩ => ?_))
  subst ex
  obtain rfl : ov = Value.ref a := rx
  refine wpAny_bind (wpAny_standAt (wpAny_bind (wpAny_holding (setattr_ok I2 ea c n l r fun s3 I3 => ?_))))
  exact wpAny_release ⟨σ, _, I3, q2⟩
section
variable {K : PySem.W.Frag} {ca : Ci} {ec : Nat → Addr} {wx : WX} {W W0 W1 : Wd} {st st0 st1 : Sta} {σ : L2.St} {H H0 H1 : Hp} {Q : VK} {α β : Type} {v : V}
/-- a second run within a statement's, the first base kept -/
theorem PostS.two {r : Res α} {f : α → Sta → Res β} {P : Wd → Sta → L2.St → Hp → β → Prop} (fr : Frm W st H W1 st1 H1) (h : PostS K ca ec wx W st H (r.bind f) P) :
    Post K ca ec wx W1 st1 σ H1 r fun W' st' H' a => PostS K ca ec wx W st H (f a st') P := by
  cases r with
  | ok a st' => exact fun W' H' _ g => h
  | exc c st' => exact fun W' H' f2 g => h W' σ H' (fr.trans f2) g
  | stuck => exact h
theorem ext_fld {n : Nat} {f : Str} {p : Addr} : Ext W (W.setm (.fld n f) p) := ⟨Same.refl _, Nat.le_refl _, fun _ _ => setm_ne (by intro z; cases z), rfl⟩
/-- what is stored into a field -/
theorem setf_run {ncl n c : Nat} {fs : List (Str × Sl)} {f : Str} {own : Bool} {x : Hd} {sl : Sl} {u : V} {us : List (Str × V)} (e : st1.S[n]? = some (.ins c fs)) (hr : st1.ro = false) (fr : Frm W st H W1 st1 H1) (g : Good K ca W1 st1 σ H1) (r : RepH K W st H W1 st1 σ H1 u x) (hs : slOf own x = some sl)
    (h1 : H1 (W1.m (.box n)) = some (.ins (ca.cls c) (W1.m (.dx n)) us)) :
    ∃ W', Frm W st H W' (st1.setF n c fs f sl) (upd H1 (W1.m (.box n)) (.ins (ca.cls c) (W1.m (.dx n)) (putF f u us))) ∧ Good K ca W' (st1.setF n c fs f sl) σ (upd H1 (W1.m (.box n)) (.ins (ca.cls c) (W1.m (.dx n)) (putF f u us))) := by
  have li : Live st1 (.box n) := ⟨_, e, by intro z; cases z⟩
  cases x with
  | val d =>
    cases own with
    | true => cases hs
    | false =>
      cases hs
      exact ⟨W1, set_fld e hr fr g h1 (fun _ _ => rfl) rfl rfl rfl rfl (fun z => by cases z) ⟨u, rfl, r⟩⟩
  | new ds =>
    obtain ⟨p, vs, rfl, q1, q2, q3, q4, q5⟩ := r
    have np : p ≠ W1.m (.box n) := fun z => q4 ⟨_, li, z.symm⟩
    cases own with
    | true =>
      cases hs
      refine ⟨W1.setm (.fld n f) p, set_fld e hr fr g h1 (fun o ho => setm_ne ho) rfl rfl rfl rfl (fun _ => ?_) ⟨?_, vs, ?_, ?_⟩⟩
      · rw [setm_same]; exact ⟨q3, q4, q5⟩
      · rw [setm_same]
      · rw [setm_same, upd_ne np]; exact q1
      · exact q2.ext ext_fld
    | false =>
      cases hs
      obtain ⟨W2, f2, g2, r2, x2⟩ := frz_new fr g ⟨p, vs, rfl, q1, q2, q3, q4, q5⟩
      have em : W2.m (.box n) = W1.m (.box n) := x2.m n (by rw [g.nb]; exact (List.getElem?_eq_some_iff.mp e).1)
      obtain ⟨us2, h2, _, h3, _⟩ := g2.obj n _ e
      rw [em, h1] at h2
      have h2 := Option.some.inj h2
      have e3 : W1.m (.dx n) = W2.m (.dx n) := by injection h2
      rw [← em, e3]
      rw [← em, e3] at h1
      exact ⟨W2, set_fld e hr f2 g2 h1 (fun _ _ => rfl) rfl rfl rfl rfl (fun z => by cases z) ⟨.ref p, rfl, r2⟩⟩
  | newd kvs =>
    obtain ⟨p, vs, rfl, q1, q2, q3, q4, q5⟩ := r
    have np : p ≠ W1.m (.box n) := fun z => q4 ⟨_, li, z.symm⟩
    cases own with
    | true =>
      cases hs
      refine ⟨W1.setm (.fld n f) p, set_fld e hr fr g h1 (fun o ho => setm_ne ho) rfl rfl rfl rfl (fun _ => ?_) ⟨?_, vs, ?_, ?_⟩⟩
      · rw [setm_same]; exact ⟨q3, q4, q5⟩
      · rw [setm_same]
      · rw [setm_same, upd_ne np]; exact q1
      · exact q2.ext ext_fld
    | false => cases hs
  | own i => cases hs
  | fld i g => cases hs
end
section
variable {ca : Ci} {ec : Nat → Addr} {wx : WX} {X : Cx} {Γ : Gm} {nm : Nm} {k : Nat} {calm : Bool} {sc : Scope}
theorem ok_setf {own : Bool} {a m : Sta → Res Hd} {l v : Expr} {f : Str} {p pos : Pos} (C : Okc Γ nm ca ec k wx calm sc X) (hl : isLc v = false) (hf : f ∈ nm.flds) (he : PE X v (tE X.K ca ec wx m)) (ha : PE X l (tE X.K ca ec wx a)) :
    PS X (.Assign [.Attribute l f p] v pos) (tS X.K ca ec wx fun st => (m st).bind fun x st1 => (a st1).bind fun y st2 => (match (slOf own x).bind (setfD Γ.ncl st2 y f) with
    | some st3 => .ok .nx st3
    | none => .stuck)) := by
  refine (ps_fld ha he (noLc (tg := some (.Attribute l f p)) (l := pos.line) (env := X.env) hl)).imp fun D σ H ⟨W, st, g, p⟩ => ?_
  refine ⟨W, st, g, (PostS.toE0 (σ := σ) p).mono fun W1 st1 H1 x f1 g1 p1 u r1 => ?_⟩
  refine ⟨W1, st1, g1, (PostS.two (σ := σ) f1 p1).mono fun W2 st2 H2 y f2 g2 p2 w r2 => ?_⟩
  cases hs : slOf own x with
  | none => rw [hs] at p2; exact p2.elim
  | some sl =>
    rw [hs] at p2
    have nf : x.isFld = true → st1.ro = true := fun z => by
      cases x with
      | fld _ _ => cases hs
      | _ => cases z
    have r1' := r1.stay f2 nf
    have p2 : PostS X.K ca ec wx W st H (match setfD Γ.ncl st2 y f sl with
      | some st3 => .ok .nx st3
      | none => .stuck) (flowP X.K W st H D) := p2
    unfold setfD at p2
    split at p2
    · rename_i st3 q
      split at q
      · rename_i n c fs ei
        split at q
        · rename_i hc
          cases q
          obtain ⟨ey, e1, rfl, us, h1, h3⟩ := ins_rel g2 r2 ei
          obtain ⟨c1, c2⟩ := C.cls c hc.1
          obtain ⟨W', f3, g3⟩ := setf_run (ncl := Γ.ncl) (f := f) e1 hc.2.1 (f1.trans f2) g2 r1' hs h1
          exact ⟨_, _, _, us, rfl, h1, c1, c2 f hf, by rw [h3.length]; exact hc.2.2, p2 W' σ _ f3 g3⟩
        · cases q
      · cases q
    · exact p2.elim
theorem tps_ok (C : Okc Γ nm ca ec k wx calm sc X) (T : TgOk nm sc X) : ∀ (ts : List Tp) (es : List Expr), tpB nm sc ts es = true → PGs X es (fun vs σ H Q => ∃ W st ds st1, Good X.K ca W st σ H ∧ Reps X.K W vs ds ∧ tpSet Γ.ncl ts ds st = some st1 ∧ ∀ W' σ' H', Frm W st H W' st1 H' → Good X.K ca W' st1 σ' H' → Q σ' H') ∧ (assignEach es X.env).length = ts.length ∧ (assignEach es X.env).findIdx? (·.1) = none
  | [], [], _ => ⟨⟨fun pins s σ H vs us Q I r h => by
      obtain ⟨W, st, ds, st1, g, rs, e, q⟩ := h
      refine pgs_nil.run pins s σ H vs us Q I r ?_
      cases ds with
      | nil =>
        cases rs
        cases e
        exact ⟨rfl, q W σ H (.refl ..) g⟩
      | cons d ds => cases e⟩, rfl, rfl⟩
  | .sl i :: ts, .Name x p :: es, h => by
    unfold tpB at h
    simp only [Bool.and_eq_true, decide_eq_true_eq] at h
    obtain ⟨h1, h2, h3⟩ := h
    obtain ⟨l1, l2⟩ := T.loc x h2
    obtain ⟨ih, n1, n2⟩ := tps_ok C T ts es h3
    refine ⟨⟨fun pins s σ H vs us Q I r h => ?_⟩, ?_, ?_⟩
    · obtain ⟨W, st, ds, st1, g, rs, e, q⟩ := h
      cases ds with
      | nil => cases e
      | cons d ds =>
        cases rs with
        | @cons v vs' _ _ rd rs =>
        have e : tpSet Γ.ncl ts ds (st.setE i (.val d)) = some st1 := e
        refine (pgs_cons (pg_name (X := X) (pos := p) (by rw [T.hN]; exact T.nd) (by rw [T.hN]; exact h1) l1 l2) ih).run pins s σ H _ us Q I r ⟨v, vs', rfl, ?_⟩
        exact ⟨W, st.setE i (.val d), ds, st1, g.setV rfl ⟨v, rfl, rd⟩, rs, e, fun W' σ' H' f g' => q W' σ' H' (((Frm.refl W st H).setV rfl).trans f) g'⟩
    · show (assignEach es X.env).length + 1 = ts.length + 1
      rw [n1]
    · show (List.findIdx? (·.1) ((false, assign (.Name x p) X.env) :: assignEach es X.env)) = none
      rw [List.findIdx?_cons]
      simp only [Bool.false_eq_true, if_false]
      rw [n2]
      rfl
  | .fl i f :: ts, .Attribute (.Name x xp) m p :: es, h => by
    unfold tpB at h
    simp only [Bool.and_eq_true, decide_eq_true_eq] at h
    obtain ⟨h1, rfl, h2, h3⟩ := h
    obtain ⟨ih, n1, n2⟩ := tps_ok C T ts es h3
    refine ⟨⟨fun pins s σ H vs us Q I r h => ?_⟩, ?_, ?_⟩
    · obtain ⟨W, st, ds, st1, g, rs, e, q⟩ := h
      cases ds with
      | nil => cases e
      | cons d ds =>
        cases rs with
        | @cons v vs' _ _ rd rs =>
        refine (pgs_cons (pg_fld (pe_name C h1)) ih).run pins s σ H _ us Q I r ⟨v, vs', rfl, ?_⟩
        unfold tpSet at e
        split at e
        · rename_i n en
          obtain ⟨xv, ex, rx⟩ := g.slot i _ en
          refine ⟨xv, getE ex, ?_⟩
          cases es1 : setfD Γ.ncl st (.val (.box n)) m (.val d) with
          | none => rw [es1] at e; cases e
          | some st2 =>
            rw [es1] at e
            have e : tpSet Γ.ncl ts ds st2 = some st1 := e
            unfold setfD at es1
            split at es1
            · rename_i n' c fs ei
              split at es1
              · rename_i hc
                cases es1
                obtain ⟨ey, e1, rfl, us', k1, k3⟩ := ins_rel (v := xv) (x := .val (.box n)) (W0 := W) (st0 := st) (H0 := H) g rx ei
                obtain ⟨c1, c2⟩ := C.cls c hc.1
                obtain ⟨f3, g3⟩ := set_fld (W' := W) (f := m) (x := .val d) e1 hc.2.1 (.refl W st H) g k1 (fun _ _ => rfl) rfl rfl rfl rfl (fun z => by cases z) ⟨v, rfl, rd⟩
                exact ⟨_, _, _, us', rfl, k1, c1, c2 m h2, by rw [k3.length]; exact hc.2.2, W, _, ds, st1, g3, rs, e, fun W' σ' H' f g' => q W' σ' H' (f3.trans f) g'⟩
              · cases es1
            · cases es1
        · cases e
    · show (assignEach es X.env).length + 1 = ts.length + 1
      rw [n1]
    · show (List.findIdx? (·.1) ((false, assign (.Attribute (.Name x xp) m p) X.env) :: assignEach es X.env)) = none
      rw [List.findIdx?_cons]
      simp only [Bool.false_eq_true, if_false]
      rw [n2]
      rfl
  | [], _ :: _, h => by simp [tpB] at h
  | _ :: _, [], h => by simp [tpB] at h
theorem tp_len {ncl : Nat} : ∀ {ts : List Tp} {ds : List Dt} {st st1 : Sta}, tpSet ncl ts ds st = some st1 → ds.length = ts.length
  | [], [], _, _, _ => rfl
  | .sl i :: ts, d :: ds, st, st1, h => congrArg (· + 1) (tp_len (ts := ts) (show tpSet ncl ts ds (st.setE i (.val d)) = some st1 from h))
  | .fl i f :: ts, d :: ds, st, st1, h => by
    unfold tpSet at h
    split at h
    · rename_i n en
      cases e : setfD ncl st (.val (.box n)) f (.val d) with
      | none => rw [e] at h; cases h
      | some st2 =>
        rw [e] at h
        exact congrArg (· + 1) (tp_len (ts := ts) (show tpSet ncl ts ds st2 = some st1 from h))
    · cases h
  | [], _ :: _, _, _, h => by simp [tpSet] at h
  | .sl _ :: _, [], _, _, h => by simp [tpSet] at h
  | .fl _ _ :: _, [], _, _, h => by simp [tpSet] at h
theorem ok_asgM {ts : List Tp} {m : Sta → Res Hd} {es : List Expr} {kk : Nat} {v : Expr} {p pos : Pos} (C : Oks Γ nm ca ec k wx calm sc X) (hc : calm = true) (ht : tpB nm sc ts es = true) (hl : isLc v = false) (hv : notTup v = true) (he : PE X v (tE X.K ca ec wx m)) : PS X (.Assign [.Tuple es kk p] v pos) (tS X.K ca ec wx fun st => (m st).bind fun x st1 => (match x with
    | .val (.tup ds) => (match tpSet Γ.ncl ts ds st1 with
      | some st2 => .ok .nx st2
      | none => .stuck)
    | _ => .stuck)) := by
  obtain ⟨pg, n1, n2⟩ := tps_ok C.E (C.tg hc) ts es ht
  refine (ps_asg he (pg_tup (n := ts.length) (C.E.cl hc) pg n1 n2) (noLc (tg := some (.Tuple es kk p)) (l := pos.line) (env := X.env) hl) (by cases v <;> first | rfl | cases hv) (by rfl)).imp fun D σ H ⟨W, st, g, p⟩ => ?_
  refine ⟨W, st, g, (PostS.toE0 (σ := σ) p).mono fun W1 st1 H1 x f1 g1 p1 u r1 => ?_⟩
  split at p1
  · rename_i ds
    cases e : tpSet Γ.ncl ts ds st1 with
    | none => rw [e] at p1; exact p1.elim
    | some st2 =>
      rw [e] at p1
      have r1 : Rep X.K W1 u (.tup ds) := r1
      cases r1 with
      | tup s t =>
        rename_i a vs
        refine ⟨a, vs, rfl, sameT g1.gh s, ?_, W1, st1, ds, st2, g1, t, e, fun W' σ' H' f g' => p1 W' σ' H' (f1.trans f) g'⟩
        rw [t.length]
        exact tp_len e
  · exact p1.elim
/-- xs[i], by values: a list, a place from its beginning -/
def rGetP : V → V → Hp → VK → Prop := fun o i H Q => ∃ p xs k z, o = .ref p ∧ i = .int k ∧ 0 ≤ k ∧ H p = some (.lst xs) ∧ xs[k.toNat]? = some z ∧ Q z H
theorem get_listP : PGet X rGetP := by
  intro pins s σ H o i ov iv Q I ro ri h
  obtain ⟨p, xs, k, z, rfl, rfl, h0, hp, hz, q⟩ := h
  cases ro
  obtain ⟨t, rfl⟩ := ri
  obtain ⟨its, r, pl, hsz⟩ := I.list (SqL.of hp)
  obtain ⟨w, ew, rw'⟩ := r.get hz
  have hn := line63
  have hl := r.length
  have lt := (List.getElem?_eq_some_iff.mp hz).1
  refine wpAny_getItem_list pl.isList h0 ?_ (by simpa using ew) ⟨z, H, I, rw', q⟩
  omega
theorem setD_run {K : PySem.W.Frag} {W W0 : Wd} {st st0 st' : Sta} {σ : L2.St} {H H0 : Hp} {x : Hd} {u w : V} {kk : Int} {d : Dt} (q : setD st x kk d = some st') (g : Good K ca W st σ H) (ru : RepH K W0 st0 H0 W st σ H u x) (rd : Rep K W w d) :
    ∃ p xs j, u = .ref p ∧ H p = some (.lst xs) ∧ ixN xs.length kk = some j ∧ Frm W st H W st' (upd H p (.lst (xs.set j w))) ∧ Good K ca W st' σ (upd H p (.lst (xs.set j w))) := by
  cases x with
  | own i =>
    have q : (match st.env[i]? with
        | some (.own ds) => (ixN ds.length kk).map fun q => st.setE i (.own (ds.set q d))
        | _ => none) = some st' := q
    split at q
    · rename_i ds e1
      cases ei : ixN ds.length kk with
      | none => rw [ei] at q; cases q
      | some jj =>
        rw [ei] at q
        cases q
        obtain ⟨e2, vs, h1, t⟩ := g.slot i _ e1
        have e3 : u = .ref (W.m (.slot i)) := by
          have ru' : σ[i]? = some (some u) := ru
          rw [ru'] at e2; simpa using e2
        subst e3
        exact ⟨_, vs, jj, rfl, h1, by rw [t.length]; exact ei, mut_slot (sl' := .own (ds.set jj d)) (ob := .lst (vs.set jj w)) e1 rfl rfl (.refl W st H) g ⟨rfl, _, upd_same, t.set rd jj⟩⟩
    · cases q
  | val dd =>
    cases dd with
    | box n =>
      have q : (if st.ro then none else (match st.S[n]? with
          | some (.lst ds) => (ixN ds.length kk).map fun q => { st with S := st.S.set n (.lst (ds.set q d)) }
          | _ => none)) = some st' := q
      split at q
      · cases q
      · rename_i hro
        split at q
        · rename_i ds e1
          cases ei : ixN ds.length kk with
          | none => rw [ei] at q; cases q
          | some jj =>
            rw [ei] at q
            cases q
            obtain ⟨vs, h1, t⟩ := g.obj n _ e1
            have ru : Rep K W u (.box n) := ru
            cases ru
            exact ⟨_, vs, jj, rfl, h1, by rw [t.length]; exact ei, mut_box (ob' := .lst (ds.set jj d)) (ho := .lst (vs.set jj w)) e1 ⟨_, rfl⟩ ⟨_, rfl⟩ (by simpa using hro) (.refl W st H) g ⟨_, upd_same, t.set rd jj⟩⟩
        · cases q
    | _ => cases q
  | fld n f =>
    have q : (match ownF st n f with
        | some (c, fs, .own ds) => (ixN ds.length kk).map fun q => st.setF n c fs f (.own (ds.set q d))
        | _ => none) = some st' := q
    split at q
    · rename_i c fs ds e0
      obtain ⟨hro, e1, e2⟩ := ownF_of e0
      cases ei : ixN ds.length kk with
      | none => rw [ei] at q; cases q
      | some jj =>
        rw [ei] at q
        cases q
        obtain ⟨vs, h1, t⟩ := fldO_rel g e1 e2
        have ea : u = .ref (W.m (.fld n f)) := ru.1
        subst ea
        exact ⟨_, vs, jj, rfl, h1, by rw [t.length]; exact ei, mut_fld (x := .own (ds.set jj d)) (ob := .lst (vs.set jj w)) e1 e2 rfl rfl hro (.refl W st H) g ⟨rfl, _, upd_same, t.set rd jj⟩⟩
    · cases q
  | _ => cases q
theorem augG_of {st : Sta} {x y : Hd} {u j : Int} (e : augG st x y = some (u, j)) : ∃ ds, y = .val (.int j) ∧ lstOf st x = some ds ∧ 0 ≤ j ∧ ds[j.toNat]? = some (.int u) := by
  unfold augG at e
  split at e
  · rename_i jj ds el
    split at e
    · rename_i h0
      split at e
      · rename_i u0 eu
        cases e
        exact ⟨ds, rfl, el, h0, eu⟩
      · cases e
    · cases e
  · cases e
theorem augS_of {o : BOp} {u j : Int} {x z : Hd} {st st' : Sta} (e : augS o u j x z st = some st') : ∃ v w, z = .val (.int v) ∧ augD o u v = some w ∧ setD st x j (.int w) = some st' := by
  unfold augS at e
  split at e
  · rename_i v
    cases ea : augD o u v with
    | none => rw [ea] at e; cases e
    | some w => rw [ea] at e; exact ⟨v, w, rfl, ea, e⟩
  · cases e
theorem ok_augx {a i m : Sta → Res Hd} {o : BOp} {l r v : Expr} {tp pos : Pos} (hx : ixB r = true) (ha : PE X l (tE X.K ca ec wx a)) (hi : PE X r (tE X.K ca ec wx i)) (he : PE X v (tE X.K ca ec wx m)) :
    PS X (.AugAssign (.Subscript l r tp) (opO o) v pos) (tS X.K ca ec wx fun st => (a st).bind fun x st1 => (behind x i st1).bind fun y st2 => (match augG st2 x y with
    | some (u, j) => (behind x m st2).bind fun z st3 => (match augS o u j x z st3 with
      | some st4 => .ok .nx st4
      | none => .stuck)
    | none => .stuck)) := by
  refine (ps_augS ha hi get_listP he (ip_aug o) set_list (by intro _ _ _; cases r <;> first | rfl | cases hx)).imp fun D σ H ⟨W, st, g, p⟩ => ?_
  refine ⟨W, st, g, p.toE.mono fun W1 st1 H1 x f1 g1 p1 u ru => ?_⟩
  obtain ⟨st1', g1', hb, p2⟩ := behind_run g1 ru p1.toE
  refine ⟨W1, st1', g1', p2.mono fun W2 st2' H2 y f2 g2' ⟨b, g2, f2', ru2, p3⟩ z rz => ?_⟩
  have rz2 := rz.setro (b := b) (b0 := st1'.ro)
  generalize st2'.setro b = st2 at g2 f2' ru2 rz2 p3
  cases eg : augG st2 x y with
  | none => rw [eg] at p3; exact p3.elim
  | some pr =>
    obtain ⟨uu, j⟩ := pr
    rw [eg] at p3
    have p3 : PostS X.K ca ec wx W2 st2 H2 ((behind x m st2).bind fun z st3 => (match augS o uu j x z st3 with
      | some st4 => .ok .nx st4
      | none => .stuck)) (flowP X.K W st H D) := p3
    obtain ⟨ds, ey, el, h0, eu⟩ := augG_of eg
    subst ey
    have rz2 : Rep X.K W2 z (.int j) := rz2
    cases rz2
    obtain ⟨aa, vs, rfl, t, h1⟩ := lst_rel g2 ru2 el
    obtain ⟨w0, hw0, rw0⟩ := t.get eu
    cases rw0
    refine ⟨aa, vs, j, _, rfl, rfl, h0, h1, hw0, ?_⟩
    obtain ⟨st2', g2', hb2, p4⟩ := behind_run g2 ru2 p3.toE
    refine ⟨W2, st2', g2', p4.mono fun W3 st3' H3 y3 f3 g3' hh z3 rz3 => ?_⟩
    obtain ⟨b3, g3, f3', ru3, p5⟩ := hh
    have rz4 := rz3.setro (b := b3) (b0 := st2'.ro)
    generalize st3'.setro b3 = st3 at g3 f3' ru3 rz4 p5
    cases es : augS o uu j x y3 st3 with
    | none => rw [es] at p5; exact p5.elim
    | some st4 =>
      rw [es] at p5
      obtain ⟨vv, w, ez, ea, es2⟩ := augS_of es
      subst ez
      have rz4 : Rep X.K W3 z3 (.int vv) := rz4
      cases rz4
      obtain ⟨p, xs, jx, e1, e2, e3, f6, g6⟩ := setD_run (w := .int w) es2 g3 ru3 (.int w)
      exact ⟨_, _, w, rfl, rfl, ea, p, xs, j, jx, e1, rfl, e2, e3, p5 W3 σ _ f6 g6⟩
end
end EV
namespace EV
open PySem PySem.Spec PyProof.Rows L2
theorem loopF_eq (v : Itv) (body : Dt → Sta → Res Fl) (n k : Nat) (st : Sta) :
    loopF v body n k st = match v.at st k with
    | none => .stuck
    | some none => .ok .nx st
    | some (some d) => (match n with
      | 0 => .stuck
      | n + 1 => (body d st).bind fun fl st' => match fl with
        | .nx => loopF v body n (k + 1) st'
        | .ct => loopF v body n (k + 1) st'
        | .bk => .ok .nx st'
        | .rt h => .ok (.rt h) st') := by
  conv => lhs; unfold loopF
  try rfl
section
variable {ca : Ci} {ec : Nat → Addr} {Γ : Gm} {nm : Nm} {k : Nat} {calm : Bool} {wx : WX} {sc : Scope} {X : Cx}
theorem ok_iff {t : Sta → Res Hd} {a b : Sta → Res Fl} {c : Expr} {l r : List Stmt} {pos : Pos} (ht : PT X c (tT X.K ca ec wx fun st => (t st).truth)) (ha : PSs X l (tS X.K ca ec wx a)) (hb : PSs X r (tS X.K ca ec wx b)) :
    PS X (.If c l r pos) (tS X.K ca ec wx fun st => (t st).truth.bind fun k st1 => if k then a st1 else b st1) :=
  (ps_if ht ha hb).imp fun D σ H ⟨W, st, g, p⟩ => ⟨W, st, g, p.toE.mono fun W1 st1 H1 k f1 g1 p1 => by
    cases k with
    | true => exact iteT ⟨W1, st1, g1, PostS.mono p1 fun W2 st2 σ2 H2 fl f2 g2 q => flow_early f1 q⟩
    | false => exact iteF ⟨W1, st1, g1, PostS.mono p1 fun W2 st2 σ2 H2 fl f2 g2 q => flow_early f1 q⟩⟩
theorem flow_setro {W W2 : Wd} {st st2 : Sta} {σ2 : L2.St} {H H2 : Hp} {D : Ends} {fl : Fl} {b : Bool} {K : PySem.W.Frag} (q : flowP K W st H D W2 (st2.setro b) σ2 H2 fl) : flowP K W st H D W2 st2 σ2 H2 fl := by
  cases fl with
  | rt h => exact fun v r => q v (RepH.setro (b := b) (b0 := st.ro) r)
  | _ => exact q
theorem ok_for {tg it : Expr} {t : Tg} {mi : Sta → Res Itv} {mb : Sta → Res Fl} {body : List Stmt} {pos : Pos} (C : Oks Γ nm ca ec k wx calm sc X) (hc : calm = true) (hs : setB it = true) (ht : t.chk nm sc tg = true) (hi : PI X tg it (tI X.K ca ec wx mi)) (hb : PSs X body (tS X.K ca ec wx mb)) :
    PS X (.For tg it body [] pos) (tS X.K ca ec wx fun st => (mi st).bind fun v st1 => v.guard (fun st0 => loopF v (fun d s => match t.set s d with
      | some s1 => mb s1
      | none => .stuck) (v.len st0) 0 st0) st1) := by
  refine (ps_for C.pass (C.E.cl hc) hi (tg_ok (ca := ca) (C.tg hc) ht) hb (fold_of hs)).imp fun D σ H ⟨W, st, g, p⟩ => ?_
  refine ⟨W, st, g, p.toE.mono fun W1 st1 H1 v f1 g1 p1 J hJ => ?_⟩
  obtain ⟨st0, ⟨b0, hb0⟩, g0, hJ0, hro, p1⟩ := guardS_run g1 hJ p1
  have p1 := p1.mono (P' := flowP X.K W st H D) fun W2 st2 σ2 H2 fl _ _ ⟨b, _, _, q⟩ => flow_setro q
  generalize hbody : (fun (d : Dt) (s : Sta) => match t.set s d with
      | some s1 => mb s1
      | none => Res.stuck) = bd at p1
  refine ⟨fun i m σ' H' => ∃ W' st', Good X.K ca W' st' σ' H' ∧ Frm W1 st0 H1 W' st' H' ∧ PostS X.K ca ec wx W1 st0 H1 (loopF v bd m i st') (flowP X.K W st H D), ⟨_, W1, st0, g0, .refl .., p1⟩, ?_⟩
  rintro i m σ' H' ⟨W', st', g', f', p'⟩
  rw [loopF_eq] at p'
  split at p'
  · exact p'.elim
  · rename_i e
    exact .inl ⟨turn_end hJ0 f'.ext (fun z o l so => (f'.roM (hro z) o so l).2) g'.gh e, p' W' σ' H' f' g'⟩
  · rename_i d e
    cases m with
    | zero => exact p'.elim
    | succ n =>
      obtain ⟨go, yl⟩ := turn_go hJ0 f'.ext (fun z o l so => (f'.roM (hro z) o so l).2) g'.gh e
      refine .inr ⟨go, _, fun σ5 H5 h5 => ⟨n, Nat.lt_succ_self n, h5⟩, fun x H'' y => ?_⟩
      obtain ⟨W6, f6, g6, rx⟩ := yl g' x H'' y
      have f' := f'.trans f6
      have p' : PostS X.K ca ec wx W1 st0 H1 ((bd d st').bind fun fl st' => match fl with
        | .nx => loopF v bd n (i + 1) st'
        | .ct => loopF v bd n (i + 1) st'
        | .bk => .ok .nx st'
        | .rt h => .ok (.rt h) st') (flowP X.K W st H D) := p'
      have eb : bd d st' = match t.set st' d with
        | some s1 => mb s1
        | none => Res.stuck := by rw [← hbody]
      rw [eb] at p'
      cases es : t.set st' d with
      | none => rw [es] at p'; exact p'.elim
      | some s1 =>
        rw [es] at p'
        have p' : PostS X.K ca ec wx W1 st0 H1 ((mb s1).bind fun fl st' => match fl with
          | .nx => loopF v bd n (i + 1) st'
          | .ct => loopF v bd n (i + 1) st'
          | .bk => .ok .nx st'
          | .rt h => .ok (.rt h) st') (flowP X.K W st H D) := p'
        refine ⟨W6, st', d, s1, g6, rx, es, fun W2 σ2 kp f2 g2 => ⟨W2, s1, g2, ?_⟩⟩
        cases em : mb s1 with
        | stuck => rw [em] at p'; exact p'.elim
        | exc c st3 =>
          rw [em] at p'
          exact fun W3 σ3 H3 f3 g3 => p' W3 σ3 H3 ((f'.trans f2).trans f3) g3
        | ok fl st3 =>
          rw [em] at p'
          intro W3 σ3 H3 f3 g3
          have f13 := (f'.trans f2).trans f3
          cases fl with
          | nx => exact ⟨W3, st3, g3, f13, p'⟩
          | ct => exact ⟨W3, st3, g3, f13, p'⟩
          | bk => exact p' W3 σ3 H3 f13 g3
          | rt h => exact fun v' r => p' W3 σ3 H3 f13 g3 v' (RepH.early f1 (by
            have z := RepH.setro (b := st3.ro) (b0 := st1.ro) (r.early (f'.trans f2))
            rw [hb0] at z
            exact z))
theorem ok_whl {c : Expr} {mc : Sta → Res Bool} {mb : Sta → Res Fl} {body : List Stmt} {pos : Pos} {fuel : Nat} (C : Oks Γ nm ca ec k wx calm sc X) (hc : PT X c (tT X.K ca ec wx mc)) (hb : PSs X body (tS X.K ca ec wx mb)) :
    PS X (.While c body [] pos) (tS X.K ca ec wx fun st => loopW mc mb fuel st) := by
  refine (ps_while C.pass hc hb).imp fun D σ H ⟨W, st, g, p⟩ => ?_
  refine ⟨fun m σ' H' => ∃ W' st', Good X.K ca W' st' σ' H' ∧ Frm W st H W' st' H' ∧ PostS X.K ca ec wx W' st' H' (loopW mc mb m st') (flowP X.K W st H D), ⟨_, W, st, g, .refl .., p⟩, ?_⟩
  rintro m σ' H' ⟨W', st', g', f', p'⟩
  cases m with
  | zero => exact p'.elim
  | succ n =>
    have p' : PostS X.K ca ec wx W' st' H' ((mc st').bind fun b st1 => if b then (mb st1).bind fun fl st' => match fl with
        | .nx => loopW mc mb n st'
        | .ct => loopW mc mb n st'
        | .bk => .ok .nx st'
        | .rt h => .ok (.rt h) st'
      else .ok .nx st1) (flowP X.K W st H D) := p'
    refine ⟨W', st', g', p'.toE.mono fun W1 st1 H1 b f1 g1 p1 => ?_⟩
    cases b with
    | false => exact iteF (p1 W1 σ' H1 (.refl ..) g1)
    | true =>
      refine iteT ⟨_, fun σ5 H5 h5 => ⟨n, Nat.lt_succ_self n, h5⟩, W1, st1, g1, ?_⟩
      have p1 : PostS X.K ca ec wx W1 st1 H1 ((mb st1).bind fun fl st' => match fl with
        | .nx => loopW mc mb n st'
        | .ct => loopW mc mb n st'
        | .bk => .ok .nx st'
        | .rt h => .ok (.rt h) st') (flowP X.K W st H D) := p1
      cases em : mb st1 with
      | stuck => rw [em] at p1; exact p1.elim
      | exc c st3 => rw [em] at p1; exact p1
      | ok fl st3 =>
        rw [em] at p1
        intro W3 σ3 H3 f3 g3
        have f13 := (f'.trans f1).trans f3
        cases fl with
        | nx => exact ⟨W3, st3, g3, f13, PostS.rebase f3 (show PostS X.K ca ec wx W1 st1 H1 (loopW mc mb n st3) _ from p1)⟩
        | ct => exact ⟨W3, st3, g3, f13, PostS.rebase f3 (show PostS X.K ca ec wx W1 st1 H1 (loopW mc mb n st3) _ from p1)⟩
        | bk => exact p1 W3 σ3 H3 f3 g3
        | rt h => exact fun v' r => p1 W3 σ3 H3 f3 g3 v' (r.early (f'.trans f1))
theorem ok_raise {c : Nat} {x : Str} {m : Str} {j : Nat} {p p2 p3 pos : Pos} (C : Oks Γ nm ca ec k wx calm sc X) (hc : calm = true) (hx : nm.ex[c]? = some x) (hg : glB sc x = true) (hd : notDbg x = true) :
    PS X (.Raise (some (.Call (.Name x p) [.Constant (.str m) j p2] [] p3)) none pos) (tS X.K ca ec wx fun st => .exc c st) := by
  obtain ⟨r1, r2, r3, r4⟩ := C.rai c x hx
  refine (ps_raise (C.E.cl hc) C.E.tk (pmk_own PySem.F.excBase_ValueError r1 (C.E.ex c x hx) r2 (raises_own r3 r4) (gl_of C.E hg) (dbg_of hd).1)).imp fun D σ H ⟨W, st, g, p⟩ => ?_
  exact p W σ H (.refl ..) g
/-! ### try -/
def Ci.at (ca : Ci) (a : Addr) (d : Nat) : Ci := { ca with xa := some (a, d) }
mutual
theorem Rep.xa {K : PySem.W.Frag} {W : Wd} {x : Option (Addr × Nat)} : ∀ {v : V} {d : Dt}, Rep K W v d → Rep K { W with xa := x } v d
  | _, _, .non => .non
  | _, _, .bl b => .bl b
  | _, _, .int i => .int i
  | _, _, .str x => .str x
  | _, _, .tup s r => .tup s (Reps.xa r)
  | _, _, .lst s r => .lst s (Reps.xa r)
  | _, _, .slst s r => .slst s (Reps.xa r)
  | _, _, .box (n := n) h => .box (W := { W with xa := x }) h
theorem Reps.xa {K : PySem.W.Frag} {W : Wd} {x : Option (Addr × Nat)} : ∀ {vs : List V} {ds : List Dt}, Reps K W vs ds → Reps K { W with xa := x } vs ds
  | _, _, .nil => .nil
  | _, _, .cons a r => .cons (Rep.xa a) (Reps.xa r)
end
section
variable {K : PySem.W.Frag} {W W' : Wd} {x : Option (Addr × Nat)} {st st' : Sta} {σ : L2.St} {H H' : Hp}
theorem KReps.xa : ∀ {us : List (Key × V)} {kvs : List (Dt × Dt)}, KReps K W us kvs → KReps K { W with xa := x } us kvs
  | _, _, .nil => .nil
  | _, _, .int a r => .int a.xa (KReps.xa r)
  | _, _, .str a r => .str a.xa (KReps.xa r)
theorem SlRel.xa {o : Own} {v : Option V} {sl : Sl} (n : ∀ c, sl ≠ .exn c) (r : SlRel K W H o v sl) : SlRel K { W with xa := x } H o v sl := by
  cases sl with
  | none => trivial
  | val d => obtain ⟨y, e1, r⟩ := r; exact ⟨y, e1, r.xa⟩
  | own ds => obtain ⟨e1, vs, h1, r⟩ := r; exact ⟨e1, vs, h1, r.xa⟩
  | ownd ds => obtain ⟨e1, vs, h1, r⟩ := r; exact ⟨e1, vs, h1, r.xa⟩
  | exn c => exact absurd rfl (n c)
theorem FldRel.xa {n : Nat} : ∀ {us : List (Str × V)} {fs : List (Str × Sl)}, FldRel K W H n us fs → FldRel K { W with xa := x } H n us fs
  | _, _, .nil => .nil
  | _, _, .cons nn r t => .cons nn (SlRel.xa (fun c z => by subst z; cases nn) r) (FldRel.xa t)
theorem ObRel.xa {n : Nat} {ob : Ob} (r : ObRel K ca W H n ob) : ObRel K ca { W with xa := x } H n ob := by
  cases ob with
  | lst ds => obtain ⟨vs, h1, r⟩ := r; exact ⟨vs, h1, r.xa⟩
  | dct ds => obtain ⟨vs, h1, r⟩ := r; exact ⟨vs, h1, r.xa⟩
  | ins c fs => obtain ⟨us, h1, h2, r, nd⟩ := r; exact ⟨us, h1, h2, r.xa, nd⟩
  | dead => trivial
theorem Good.xa' {y : Option (Addr × Nat)} (g : Good K ca W st σ H) (n : ∀ (i : Nat) (sl : Sl), st.env[i]? = some sl → ∀ c : Nat, sl ≠ .exn c) : Good K { ca with xa := y } { W with xa := y } st σ H :=
  ⟨g.gh, g.inj, g.out, fun i sl e => (g.slot i sl e).xa (n i sl e), fun m ob e => ObRel.xa (ca := ca) (g.obj m ob e), g.len, g.nb, rfl⟩
theorem Frm.xa' {y : Option (Addr × Nat)} (f : Frm W st H W' st' H') : Frm { W with xa := y } st H { W' with xa := y } st' H' :=
  ⟨⟨f.ext.g, f.ext.nb, f.ext.m, rfl⟩, f.keep, f.dom, f.fresh, f.gnew, f.ro, f.roS, f.roM⟩
theorem RepH.xa' {W0 : Wd} {st0 : Sta} {H0 : Hp} {v : V} {h : Hd} {y z : Option (Addr × Nat)} (e : (Fl.rt h).vn = true) (r : RepH K W0 st0 H0 W st σ H v h) : RepH K { W0 with xa := z } st0 H0 { W with xa := y } st σ H v h := by
  cases h with
  | val d => exact Rep.xa r
  | new ds => obtain ⟨p, vs, e, h1, h2, h3⟩ := r; exact ⟨p, vs, e, h1, h2.xa, h3⟩
  | newd ds => obtain ⟨p, vs, e, h1, h2, h3⟩ := r; exact ⟨p, vs, e, h1, h2.xa, h3⟩
  | own i => cases e
  | fld n f => cases e
end
/-- what the suite does: of the exception at a, of the class cls -/
def tSuite (nex : Nat) (K : PySem.W.Frag) (ca : Ci) (ec : Nat → Addr) (ms : Sta → Res Fl) (a : Addr) (cls : Value) (d : Option Addr) : TS := fun D σ H => ∃ dc, dc < nex ∧ cls = .ref (ec dc) ∧ d = none ∧ tS K (ca.at a dc) ec wx0 ms D σ H
theorem ok_try {c i : Nat} {x n : Str} {body suite : List Stmt} {b₀ : Stmt} {mb ms : Sta → Res Fl} {np pos' pos : Pos} (C : Oks Γ nm ca ec k wx calm sc X) (hc : calm = true) (hx : nm.ex[c]? = some x) (hg : glB sc x = true) (hd : notDbg x = true)
    (hi : nm.N[i]? = some n) (hl : sc.names.lookup n = some .local)
    (hb : ∀ (W : WX) (pn : List (Addr × Obj)) (xe : Value → Shared → Prop), Takes (X.tr pn xe) W → PassesOwn (model X.prog X.w) X.A X.env xe → PSs (X.tr pn xe) body (tS X.K ca ec W mb))
    (hsu : ∀ (a : Addr) (oe : Obj) (dc : Nat) (pn : List (Addr × Obj)), dc < Γ.nex → Zc (.ref (ec dc)) none oe → (∃ vs, oe.data = .fields vs) → PSs (X.suite a ((a, oe) :: pn)) (b₀ :: suite) (tS X.K (ca.at a dc) ec wx0 ms)) :
    PS X (.Try body [.ExceptHandler (some (.Name x np)) (some n) (b₀ :: suite) pos'] [] [] pos) (tS X.K ca ec wx fun st => (match mb st with
    | .ok fl st1 => .ok fl st1
    | .exc d st1 => if d < Γ.nex then if Γ.sub d c then (ms (st1.setE i (.exn d))).noexc.bind fun fl st2 => if fl.vn && noExn (st2.setE i .none).env then .ok fl (st2.setE i .none) else .stuck else .exc d st1 else .stuck
    | .stuck => .stuck)) := by
  refine (ps_try_as (c := .ref (ec c)) (tb := fun W => tS X.K ca ec W mb) (ts := tSuite Γ.nex X.K ca ec ms) (C.stk hc) (C.frm hc) (by rw [C.E.hN]; exact C.E.nd) (by rw [C.E.hN]; exact hi) (by show X.env.scope.names.lookup n = _; rw [C.E.hsc]; exact hl) ⟨gl_of C.E hg, (dbg_of hd).1, .inl (C.E.ex c x hx)⟩ C.E.tk hb ?_).imp fun D σ H ⟨W, st, g, p⟩ => ?_
  · intro a oe cls d pn hz hf
    refine ⟨fun pins s σ H D I ⟨dc, hlt, e1, e2, h⟩ => ?_⟩
    subst e1; subst e2
    exact (hsu a oe dc pn hlt hz hf).run pins s σ H D I h
  · refine ⟨W, st, g, ?_⟩
    dsimp only at p
    cases em : mb st with
    | stuck => rw [em] at p; exact p
    | ok fl st1 => rw [em] at p; exact p
    | exc d st1 =>
      rw [em] at p
      have hlt : d < Γ.nex := by
        have p : PostS X.K ca ec wx W st H (if d < Γ.nex then if Γ.sub d c then (ms (st1.setE i (.exn d))).noexc.bind fun fl st2 => if fl.vn && noExn (st2.setE i .none).env then .ok fl (st2.setE i .none) else .stuck else .exc d st1 else .stuck) (flowP X.K W st H D) := p
        by_cases q : d < Γ.nex
        · exact q
        · rw [if_neg q] at p; exact p.elim
      have p : PostS X.K ca ec wx W st H (if d < Γ.nex then if Γ.sub d c then (ms (st1.setE i (.exn d))).noexc.bind fun fl st2 => if fl.vn && noExn (st2.setE i .none).env then .ok fl (st2.setE i .none) else .stuck else .exc d st1 else .stuck) (flowP X.K W st H D) := p
      rw [if_pos hlt] at p
      intro W' σ' H' f' g'
      refine ⟨Γ.sub d c, C.exm d c x hlt hx, fun hb a ha => ?_, fun hb => ?_⟩
      · have p : PostS X.K ca ec wx W st H ((ms (st1.setE i (.exn d))).noexc.bind fun fl st2 => if fl.vn && noExn (st2.setE i .none).env then .ok fl (st2.setE i .none) else .stuck) (flowP X.K W st H D) := by
          have p : PostS X.K ca ec wx W st H (if Γ.sub d c then (ms (st1.setE i (.exn d))).noexc.bind fun fl st2 => if fl.vn && noExn (st2.setE i .none).env then .ok fl (st2.setE i .none) else .stuck else .exc d st1) (flowP X.K W st H D) := p
          rw [hb, if_pos rfl] at p
          exact p
        have nx : ∀ (j : Nat) (sl : Sl), st1.env[j]? = some sl → ∀ c : Nat, sl ≠ .exn c := fun j sl e c z => by
          subst z
          obtain ⟨a', e1, _⟩ := g'.slot j _ e
          rw [g'.xa, C.E.xn hc] at e1
          cases e1
        have g1 : Good X.K (ca.at a d) { W' with xa := some (a, d) } (st1.setE i (.exn d)) (σ'.set i (some (.ref a))) H' := (g'.xa' (y := some (a, d)) nx).setV rfl ⟨a, rfl, rfl⟩
        refine ⟨d, hlt, rfl, rfl, { W' with xa := some (a, d) }, st1.setE i (.exn d), g1, ?_⟩
        cases er : ms (st1.setE i (.exn d)) with
        | stuck => rw [er] at p; exact p.elim
        | exc c' st2 => rw [er] at p; exact p.elim
        | ok fl st2 =>
          rw [er] at p
          intro W3 σ3 H3 f3 g3
          have p : PostS X.K ca ec wx W st H (if (fl.vn && noExn (st2.setE i .none).env) = true then .ok fl (st2.setE i .none) else .stuck) (flowP X.K W st H D) := p
          by_cases hv : (fl.vn && noExn (st2.setE i .none).env) = true
          · rw [if_pos hv] at p
            obtain ⟨v1, v2⟩ := b2 hv
            have n3 : ∀ (j : Nat) (sl : Sl), (st2.setE i .none).env[j]? = some sl → ∀ c : Nat, sl ≠ .exn c := fun j sl e c z => by
              subst z
              have := List.all_eq_true.mp v2 _ (List.mem_of_getElem? e)
              cases this
            have f4 : Frm W st H { W3 with xa := W.xa } (st2.setE i .none) H3 := by
              have q1 : Frm W' st1 H' W' (st1.setE i (.exn d)) H' := (Frm.refl W' st1 H').setV rfl
              have q2 := f3.xa' (y := W'.xa)
              have e1 : ({ ({ W' with xa := some (a, d) } : Wd) with xa := W'.xa } : Wd) = W' := rfl
              rw [e1, show W'.xa = W.xa from f'.ext.xa] at q2
              exact ((f'.trans q1).trans q2).setV rfl
            have g4 : Good X.K ca { W3 with xa := W.xa } (st2.setE i .none) (σ3.set i none) H3 := by
              have q1 : Good X.K (ca.at a d) W3 (st2.setE i .none) (σ3.set i none) H3 := g3.setV rfl trivial
              have q2 := q1.xa' (y := W.xa) n3
              have e1 : ({ ca.at a d with xa := W.xa } : Ci) = ca := by rw [g.xa]; rfl
              rw [e1] at q2
              exact q2
            have q := p _ _ _ f4 g4
            cases fl with
            | nx => exact q
            | bk => exact q
            | ct => exact q
            | rt h =>
              intro v r
              refine q v ?_
              have r2 : RepH X.K { W' with xa := W'.xa } (st1.setE i (.exn d)) H' { W3 with xa := W.xa } st2 σ3 H3 v h := RepH.xa' v1 r
              have q1 : Frm W st H W' (st1.setE i (.exn d)) H' := f'.trans ((Frm.refl W' st1 H').setV rfl)
              have r3 := r2.early q1
              have r4 := RepH.stay (W' := { W3 with xa := W.xa }) (st' := st2.setE i .none) (H' := H3) ((Frm.refl _ st2 H3).setV rfl) r3 (fun z => by cases h <;> first | (cases v1; done) | (cases z; done))
              exact RepH.vn v1 r4
          · rw [if_neg hv] at p; exact p.elim
      · have p : PostS X.K ca ec wx W st H (if Γ.sub d c then (ms (st1.setE i (.exn d))).noexc.bind fun fl st2 => if fl.vn && noExn (st2.setE i .none).env then .ok fl (st2.setE i .none) else .stuck else .exc d st1) (flowP X.K W st H D) := p
        rw [hb, if_neg Bool.false_ne_true] at p
        exact p W' σ' H' f' g'
end
end EV
namespace EV
open PySem PySem.Spec PyProof.Rows L2
section
variable {ec : Nat → Addr} {Γ : Gm} {nm : Nm} {k : Nat}
/-- the facts within a try's body -/
theorem Oks.tr {ca : Ci} {calm : Bool} {wx : WX} {sc : Scope} {X : Cx} (C : Oks Γ nm ca ec k wx calm sc X) (hc : calm = true) {W : WX} {pn : List (Addr × Obj)} {xe : Value → Shared → Prop} (tk : Takes (X.tr pn xe) W) (hp : PassesOwn (model X.prog X.w) X.A X.env xe) :
    Oks Γ nm ca ec k W calm sc (X.tr pn xe) :=
  ⟨⟨C.E.hN, C.E.nd, C.E.hsc, C.E.cl, C.E.hu, C.E.room, C.E.fns, C.E.gl, C.E.blt, tk, C.E.ex, C.E.xn, C.E.mth, C.E.cls, C.E.mkr, fun a d h => by rw [C.E.xn hc] at h; cases h⟩, C.loc, hp, C.stk, C.frm, C.kind, C.rai, C.exm, C.isx⟩
/-- within an except suite -/
theorem Oks.suite {ca : Ci} {calm : Bool} {wx : WX} {sc : Scope} {X : Cx} (C : Oks Γ nm ca ec k wx calm sc X) {a : Addr} {oe : Obj} {dc : Nat} {pn : List (Addr × Obj)} (hlt : dc < Γ.nex) (hz : Zc (.ref (ec dc)) none oe) (hf : ∃ vs, oe.data = .fields vs) :
    Oks Γ nm (ca.at a dc) ec k wx0 false sc (X.suite a ((a, oe) :: pn)) := by
  refine ⟨⟨C.E.hN, C.E.nd, C.E.hsc, fun h => (by cases h), C.E.hu, fun h => (by cases h), fun h => (by cases h), C.E.gl, C.E.blt, takes0, C.E.ex, fun h => (by cases h), fun h => (by cases h), C.E.cls, fun h => (by cases h), fun a' d h c y hy => ?_⟩, C.loc, PassesOwn.never, fun h => (by cases h), fun h => (by cases h), C.kind, C.rai, C.exm, C.isx⟩
  have e : some (a, dc) = some (a', d) := h
  cases e
  obtain ⟨i1, i2⟩ := C.isx dc hlt
  exact callR_imp (call_isE i1 hz hf) fun xs H Q ⟨e, q⟩ => ⟨_, _, _, e, fun u r => r, i2 c y hy, q⟩
mutual
theorem soundS : ∀ (s : S) {ca : Ci} {calm : Bool} {wx : WX} {sc : Scope} {X : Cx} (C : Oks Γ nm ca ec k wx calm sc X) (py : Stmt), chkS nm calm sc s py = true → PS X py (tS X.K ca ec wx (evS Γ s))
  | .asg t own e, ca, calm, wx, sc, X, C, py, h => by
    cases py with
    | Assign ts v p =>
      match ts, h with
      | [tg], h =>
        obtain ⟨h0, k1⟩ := b2 h
        obtain ⟨k0, k2⟩ := b2 k1
        obtain ⟨h1, h2⟩ := b2 k0
        obtain ⟨h3, h4⟩ := b2 k2
        exact ok_asg C h0 h1 h2 h3 h4
    | _ => cases h
  | .aug i o e, ca, calm, wx, sc, X, C, py, h => by
    cases py with
    | AugAssign tg op v p =>
      cases tg with
      | Name x xp =>
        obtain ⟨h0, k1⟩ := b2 h
        obtain ⟨h1, k2⟩ := b2 k1
        obtain ⟨h2, h3⟩ := b2 k2
        cases ofd h0
        exact ok_aug C (ofd h1) h2 (soundE e C.E v h3).1
      | _ => cases h
    | _ => cases h
  | .setix a i e, ca, calm, wx, sc, X, C, py, h => by
    cases py with
    | Assign ts v p =>
      match ts, h with
      | [.Subscript l r sp], h =>
        obtain ⟨h0, k1⟩ := b2 h
        obtain ⟨h1, k2⟩ := b2 k1
        obtain ⟨h2, k3⟩ := b2 k2
        obtain ⟨h3, k4⟩ := b2 k3
        obtain ⟨h4, h5⟩ := b2 k4
        exact ok_setix (e := fun st => .stuck) (noM h1) h2 (soundE e C.E v h3).1 (soundE a C.E l h4).1 (soundE i C.E r h5).1
    | _ => cases h
  | .dput a i e, ca, calm, wx, sc, X, C, py, h => by
    cases py with
    | Assign ts v p =>
      match ts, h with
      | [.Subscript l r sp], h =>
        obtain ⟨h0, k1⟩ := b2 h
        obtain ⟨h1, k2⟩ := b2 k1
        obtain ⟨h2, k3⟩ := b2 k2
        obtain ⟨h3, k4⟩ := b2 k3
        obtain ⟨h4, h5⟩ := b2 k4
        exact ok_dput C.E.hu (noM h1) h2 (soundE e C.E v h3).1 (soundE a C.E l h4).1 (soundE i C.E r h5).1
    | _ => cases h
  | .setf own a f e, ca, calm, wx, sc, X, C, py, h => by
    cases py with
    | Assign ts v p =>
      match ts, h with
      | [.Attribute l m ap], h =>
        obtain ⟨h0, k1⟩ := b2 h
        obtain ⟨h1, k2⟩ := b2 k1
        obtain ⟨h2, k3⟩ := b2 k2
        obtain ⟨h3, k4⟩ := b2 k3
        obtain ⟨h4, h5⟩ := b2 k4
        cases ofd h2
        exact ok_setf C.E (noM h1) (ofd h3) (soundE e C.E v h4).1 (soundE a C.E l h5).1
    | _ => cases h
  | .augx a i o e, ca, calm, wx, sc, X, C, py, h => by
    cases py with
    | AugAssign tg op v p =>
      cases tg with
      | Subscript l r sp =>
        obtain ⟨h0, k1⟩ := b2 h
        obtain ⟨h1, k2⟩ := b2 k1
        obtain ⟨h2, k3⟩ := b2 k2
        obtain ⟨h3, h4⟩ := b2 k3
        cases ofd h0
        exact ok_augx h1 (soundE a C.E l h2).1 (soundE i C.E r h3).1 (soundE e C.E v h4).1
      | _ => cases h
    | _ => cases h
  | .asgM ts e, ca, calm, wx, sc, X, C, py, h => by
    cases py with
    | Assign tgs v p =>
      match tgs, h with
      | [.Tuple es kk tp], h =>
        obtain ⟨h0, k1⟩ := b2 h
        obtain ⟨h1, k2⟩ := b2 k1
        obtain ⟨h2, k3⟩ := b2 k2
        obtain ⟨h3, h4⟩ := b2 k3
        exact ok_asgM C h0 h1 (noM h2) h3 (soundE e C.E v h4).1
    | _ => cases h
  | .expr e, ca, calm, wx, sc, X, C, py, h => by
    cases py with
    | Expr v p =>
      obtain ⟨h0, h1⟩ := b2 h
      exact ok_expr (noM h0) (soundE e C.E v h1).1
    | _ => cases h
  | .ret e, ca, calm, wx, sc, X, C, py, h => by
    cases py with
    | Return v p =>
      cases v with
      | some v => exact ok_ret (soundE e C.E v h).1
      | none => cases h
    | _ => cases h
  | .retN, ca, calm, wx, sc, X, C, py, h => by
    cases py with
    | Return v p =>
      cases v with
      | some v => cases h
      | none => exact ps_retN.imp fun D σ H ⟨W, st, g, p⟩ => p W σ H (.refl ..) g _ .non
    | _ => cases h
  | .iff t a b, ca, calm, wx, sc, X, C, py, h => by
    cases py with
    | If c l r p =>
      obtain ⟨h0, k1⟩ := b2 h
      obtain ⟨h1, h2⟩ := b2 k1
      exact ok_iff (soundE t C.E c h0).2 (soundSs a C l h1) (soundSs b C r h2)
    | _ => cases h
  | .for_ t it body, ca, calm, wx, sc, X, C, py, h => by
    cases py with
    | For tg i b oe p =>
      obtain ⟨h0, k1⟩ := b2 h
      obtain ⟨h1, k2⟩ := b2 k1
      obtain ⟨h2, k3⟩ := b2 k2
      obtain ⟨h3, k4⟩ := b2 k3
      obtain ⟨h4, h5⟩ := b2 k4
      cases oe with
      | nil => exact ok_for C h0 h2 h3 (soundI it C.E i h4) (soundSs body C b h5)
      | cons _ _ => cases h1
    | _ => cases h
  | .whl t body, ca, calm, wx, sc, X, C, py, h => by
    cases py with
    | While c b oe p =>
      obtain ⟨h0, k1⟩ := b2 h
      obtain ⟨h1, k2⟩ := b2 k1
      obtain ⟨h2, h3⟩ := b2 k2
      cases oe with
      | nil => exact ok_whl C (soundE t C.E c h2).2 (soundSs body C b h3)
      | cons _ _ => cases h1
    | _ => cases h
  | .raise c, ca, calm, wx, sc, X, C, py, h => by
    cases py with
    | Raise ex cause p =>
      match ex, cause, h with
      | some (.Call (.Name x xp) [.Constant (.str m) j cp] [] p3), none, h =>
        obtain ⟨h0, k1⟩ := b2 h
        obtain ⟨h1, k2⟩ := b2 k1
        obtain ⟨h2, h3⟩ := b2 k2
        exact ok_raise C h0 (ofd h1) h2 h3
    | _ => cases h
  | .try_ body c i suite, ca, calm, wx, sc, X, C, py, h => by
    cases py with
    | Try b hs oe fb p =>
      match hs, h with
      | [.ExceptHandler (some (.Name x xp)) (some n) (s0 :: ss) hp], h =>
        obtain ⟨h0, k1⟩ := b2 h
        obtain ⟨h1, k2⟩ := b2 k1
        obtain ⟨h2, k3⟩ := b2 k2
        obtain ⟨h3, k4⟩ := b2 k3
        obtain ⟨h4, k5⟩ := b2 k4
        obtain ⟨h5, k6⟩ := b2 k5
        obtain ⟨h6, k7⟩ := b2 k6
        obtain ⟨h7, k8⟩ := b2 k7
        obtain ⟨h8, h9⟩ := b2 k8
        have ll : sc.names.lookup n = some .local := by
          split at h7
          · assumption
          · cases h7
        cases oe with
        | cons _ _ => cases h1
        | nil =>
          cases fb with
          | cons _ _ => cases h2
          | nil => exact ok_try C h0 (ofd h3) h4 h5 (ofd h6) ll (fun W pn xe tk hp => soundSs body (C.tr h0 tk hp) b h8) (fun a oe dc pn hlt hz hf => soundSs suite (C.suite hlt hz hf) (s0 :: ss) h9)
    | _ => cases h
  | .pass, ca, calm, wx, sc, X, C, py, h => by
    cases py with
    | Pass p => exact ps_pass.imp fun D σ H ⟨W, st, g, p⟩ => p W σ H (.refl ..) g
    | _ => cases h
  | .brk, ca, calm, wx, sc, X, C, py, h => by
    cases py with
    | Break p => exact ps_break.imp fun D σ H ⟨W, st, g, p⟩ => p W σ H (.refl ..) g
    | _ => cases h
  | .cont, ca, calm, wx, sc, X, C, py, h => by
    cases py with
    | Continue p => exact ps_continue.imp fun D σ H ⟨W, st, g, p⟩ => p W σ H (.refl ..) g
    | _ => cases h
theorem soundSs : ∀ (ss : Ss) {ca : Ci} {calm : Bool} {wx : WX} {sc : Scope} {X : Cx} (C : Oks Γ nm ca ec k wx calm sc X) (ls : List Stmt), chkSs nm calm sc ss ls = true → PSs X ls (tS X.K ca ec wx (evSs Γ ss))
  | .nil, ca, calm, wx, sc, X, C, ls, h => by
    cases ls with
    | nil => exact pss_nil.imp fun D σ H ⟨W, st, g, p⟩ => p W σ H (.refl ..) g
    | cons _ _ => cases h
  | .cons s ss, ca, calm, wx, sc, X, C, ls, h => by
    cases ls with
    | nil => cases h
    | cons l ls =>
      obtain ⟨h1, h2⟩ := b2 h
      refine (pss_cons (soundS s C l h1) (soundSs ss C ls h2)).imp fun D σ H ⟨W, st, g, p⟩ => ?_
      have p : PostS X.K ca ec wx W st H ((evS Γ s st).bind fun fl st1 => match fl with
        | .nx => evSs Γ ss st1
        | fl => .ok fl st1) (flowP X.K W st H D) := p
      refine ⟨W, st, g, ?_⟩
      cases e : evS Γ s st with
      | stuck => rw [e] at p; exact p.elim
      | exc c st1 => rw [e] at p; exact p
      | ok fl st1 =>
        rw [e] at p
        cases fl with
        | nx =>
          have p : PostS X.K ca ec wx W st H (evSs Γ ss st1) (flowP X.K W st H D) := p
          exact fun W1 σ1 H1 f1 g1 => ⟨W1, st1, g1, (PostS.rebase f1 p).mono fun W2 st2 σ2 H2 fl f2 g2 q => flow_early f1 q⟩
        | bk => exact p
        | ct => exact p
        | rt h => exact p
end
end
end EV
namespace EV
open PySem PySem.Spec PyProof.Rows L2
/-- a def of the text, its parameters, its slots' names, its body in the small language -/
structure PDef where
  d : He.DefD
  ps : List Str
  N : List Str
  fn : Fn
  hd : d.dfl = []
  hk : d.kwd = []
  bd : ∀ (kV doc pm : Value) (an : Option Addr) (cdv ct : Value) (us : List Value), us.length = ps.length → bindArgs (PySem.W.fnOf d.name d.qual d.params d.body d.scope .none kV doc pm an cdv ct) ⟨us, []⟩ = pure (ps.zip us)
inductive Gv where
  | int (i : Int) | str (x : Str) | tup (vs : List He.Dv)
structure PD where
  defs : List PDef
  ex : List Str
  /-- below : below c d -/
  sub : Nat → Nat → Bool
  gl : List (Str × Gv)
  fuel : Nat
  /-- the classes, each with its __init__'s def; the methods' defs; the fields' names -/
  cl : List (Str × Nat) := []
  mts : List (Nat × Str × Nat) := []
  flds : List Str := []
def dvD : He.Dv → Dt
  | .int i => .int i
  | .str x => .str x
  | .bl b => .bl b
  | _ => .non
def dvB : He.Dv → Bool
  | .int _ => true
  | .str _ => true
  | .bl _ => true
  | .non => true
  | _ => false
theorem dv_rep {K : PySem.W.Frag} {W : Wd} : ∀ {vs : List He.Dv}, vs.all dvB = true → Reps K W (vs.map (He.Dv.v K)) (vs.map dvD)
  | [], _ => .nil
  | v :: vs, h => by
    rw [List.all_cons, Bool.and_eq_true] at h
    refine .cons ?_ (dv_rep h.2)
    have h1 := h.1
    cases v with
    | int i => exact .int i
    | str x => exact .str x
    | bl b => exact .bl b
    | non => exact .non
    | _ => cases h1
def Gv.dt : Gv → Dt
  | .int i => .int i
  | .str x => .str x
  | .tup vs => .tup (vs.map dvD)
/-- what a name calls; a method's def is called by no name -/
def PD.names (p : PD) : List Str := p.defs.map fun d => match d.d.at_.2 with
  | none => d.d.name
  | some _ => Str.empty
def PD.mth (p : PD) (c : Nat) (m : Str) : Option Nat := (p.mts.find? fun q => decide (q.1 = c) && decide (q.2.1 = m)).map fun q => q.2.2
def PD.cls (p : PD) (c : Nat) : Str := (p.cl.getD c (Str.empty, 0)).1
def PD.nm (p : PD) (d : PDef) : Nm := ⟨d.N, p.names, p.gl.map (·.1), p.ex, p.cl, p.flds⟩
def PD.prg (p : PD) : Prg where
  fn := fun f => (p.defs[f]?.map (·.fn)).getD ⟨0, .nil⟩
  ar := fun f => (p.defs[f]?.map fun d => d.ps.length).getD 0
  fuel := p.fuel
  glob := fun g => (p.gl[g]?.map fun q => q.2.dt).getD .non
  sub := p.sub
  nex := p.ex.length
  ncl := p.cl.length
  mth := p.mth
/-- the scope's facts -/
def fsB (N P : List Str) (sc : Scope) : Bool :=
  (match sc.kind with
    | .function => true
    | _ => false) && (!sc.isCoroutine && (!sc.isGenerator && (decide N.Nodup && (decide (N.take P.length = P) && ((P.all fun x => locB sc x) && (sc.names.all fun y => match y.2 with
    | .free => false
    | _ => true))))))
theorem fs_of {N P : List Str} {sc : Scope} (h : fsB N P sc = true) : FnScope N P sc ∧ sc.kind = .function := by
  obtain ⟨h1, k1⟩ := b2 h
  obtain ⟨h2, k2⟩ := b2 k1
  obtain ⟨h3, k3⟩ := b2 k2
  obtain ⟨h4, k4⟩ := b2 k3
  obtain ⟨h5, k5⟩ := b2 k4
  obtain ⟨h6, h7⟩ := b2 k5
  have hk : sc.kind = .function := by
    split at h1
    · assumption
    · cases h1
  refine ⟨⟨hk, noM h2, noM h3, ofd h4, ofd h5, fun x hx => loc_of (List.all_eq_true.mp h6 x hx), fun y hy e => ?_⟩, hk⟩
  have := List.all_eq_true.mp h7 y hy
  rw [e] at this
  cases this
def PDef.ok (p : PD) (d : PDef) : Bool := fsB d.N d.ps d.d.scope && (chkSs (p.nm d) true d.d.scope d.fn.body d.d.body && (decide (d.fn.n = d.N.length) && match d.d.at_.2 with
  | none => decide (d.d.at_.1 = d.d.name)
  | some _ => true))
def PD.ok (p : PD) : Bool := p.defs.all fun d => d.ok p
/-- a def stands where a class has it -/
def PD.defAt (p : PD) (K : PySem.W.Frag) (g : Nat) (a : Addr) : Bool := match p.defs[g]? with
  | some d => decide (He.fAd K d.d.at_ = a)
  | none => false
def PD.clB (p : PD) (K : PySem.W.Frag) : Bool :=
  (p.cl.all fun q => (He.Fa.glo q.1).ok K && ((He.Fa.cls q.1).ok K && ((p.flds.all fun f => (He.Fa.noat q.1 f).ok K) && ((He.Fa.mkr q.1).ok K && p.defAt K q.2 (He.ma K (He.ga K q.1) "__init__"))))) &&
  (p.mts.all fun q => (He.Fa.meth (p.cls q.1) q.2.1).ok K && p.defAt K q.2.2 (He.ma K (He.ga K (p.cls q.1)) q.2.1))
/-- what is asked of the written part -/
def excB (K : PySem.W.Frag) (D : Addr) : Bool :=
  He.eqO (PySem.W.findIn K (.ref D) "__getattribute__") (some (some (.builtin "BaseException.__getattribute__"))) && (He.eqO (PySem.W.findIn K (.ref D) "__getattr__") (some none) && (decide (PySem.W.subIn K (.ref D) (.type "BaseException") = some true) &&
    (PySem.W.hasDictIn K D && (He.eqO (PySem.W.findIn K (.ref D) "__class__") (some (some (.builtin "object.__class__"))) && (He.eqO (PySem.W.specialIn K (.builtin "object.__class__") "__get__") (some (some (.builtin "getset_descriptor.__get__"))) &&
    (decide (PySem.W.takesIn K (.builtin "object.__class__") = some true) && decide (PySem.W.mroIn K D (.type "object") = some true)))))))
theorem excC_of {K : PySem.W.Frag} {D : Addr} (h : excB K D = true) : ExcC K D := by
  obtain ⟨h1, k1⟩ := b2 h
  obtain ⟨h2, k2⟩ := b2 k1
  obtain ⟨h3, k3⟩ := b2 k2
  obtain ⟨h4, k4⟩ := b2 k3
  obtain ⟨h5, k5⟩ := b2 k4
  obtain ⟨h6, k6⟩ := b2 k5
  obtain ⟨h7, h8⟩ := b2 k6
  exact ⟨He.eqO_ok h1, He.eqO_ok h2, ofd h3, h4, He.eqO_ok h5, He.eqO_ok h6, ofd h7, ofd h8⟩
def glB_ (K : PySem.W.Frag) : Str × Gv → Bool
  | (x, .int i) => (He.Fa.int x i).ok K
  | (x, .str z) => (He.Fa.str x z).ok K
  | (x, .tup vs) => (He.Fa.glo x).ok K && (He.tupB K x vs && vs.all dvB)
def PD.exR (p : PD) (K : PySem.W.Frag) : Bool :=
  (p.defs.all fun d => match d.d.at_.2 with
    | none => (He.Fa.glo d.d.name).ok K
    | some _ => true) && ((p.ex.all fun x => (He.Fa.glo x).ok K && ((He.Fa.exc x).ok K && excB K (He.ga K x))) && ((bltNames.all fun x => (He.Fa.free x).ok K) && ((p.gl.all fun q => glB_ K q) &&
    (((List.range p.ex.length).all fun d => (List.range p.ex.length).all fun c => decide (PySem.W.exmOne K (.ref (He.ga K (p.ex.getD d Str.empty))) (.ref (He.ga K (p.ex.getD c Str.empty))) = some (p.sub d c)) &&
      decide (PySem.W.kitOne K (.ref (He.ga K (p.ex.getD d Str.empty))) (.ref (He.ga K (p.ex.getD c Str.empty))) = some (p.sub d c)))))))
def PD.exB (p : PD) (K : PySem.W.Frag) : Bool := p.clB K && p.exR K
def PD.dd (p : PD) : List He.DefD := p.defs.map (·.d)
def PD.obs (p : PD) (K : PySem.W.Frag) : He.AlD := (p.exB K && p.dd.all fun d => d.ok K, p.dd.map fun d => He.fnW K d.at_)
def PD.says (p : PD) (K : PySem.W.Frag) : Prop := p.obs K = He.valD p.dd
def hookP (n : Nat) (p : PD) : PySem.W.Hook where
  α := He.AlD
  obs := fun s => p.obs (He.frG s.heap.get? (He.asD s.heap.get? n))
  val := fun _ => He.valD p.dd
  says := fun _ h => ∃ K : PySem.W.Frag, K.In h ∧ p.says K
  of := fun _ _ e => ⟨_, He.frG_in, e⟩
  keeps := fun _ _ _ ⟨K, hK, c⟩ k => ⟨K, PySem.W.Frag.In.keeps hK k, c⟩
def obsPG (n : Nat) (p : PD) (g : Addr → Option Obj) : He.AlD := p.obs (He.frG g (He.asD g n))
theorem obsPG_eq {n : Nat} {p : PD} {g : Addr → Option Obj} {s : Shared} (h : ∀ a, g a = s.heap.get? a) : obsPG n p g = (hookP n p).obs s := by
  have e : g = s.heap.get? := funext h
  rw [e] <;> rfl
section
variable {p : PD} {K : PySem.W.Frag}
theorem says_ex (c : p.says K) : p.exB K = true := (b2 (show (p.exB K && p.dd.all fun d => d.ok K) = true from congrArg (fun z : He.AlD => z.1) c)).1
theorem says_def (c : p.says K) {d : PDef} (hd : d ∈ p.defs) : ∃ fd, FunD K d.d.name d.d.qual d.d.params d.d.body d.d.scope [] [] (He.fAd K d.d.at_) fd := by
  have c2 := (b2 (show (p.exB K && p.dd.all fun d => d.ok K) = true from congrArg (fun z : He.AlD => z.1) c)).2
  have hm : d.d ∈ p.dd := List.mem_map.mpr ⟨d, hd, rfl⟩
  have h1 := List.all_eq_true.mp c2 d.d hm
  have e : p.dd.map (fun d => He.fnW K d.at_) = p.dd.map He.DefD.val := congrArg (fun z : He.AlD => z.2) c
  have h2 : He.fnW K d.d.at_ = d.d.val := by
    obtain ⟨i, hi, ei⟩ := List.mem_iff_getElem.mp hm
    have z := congrArg (fun l => l[i]?) e
    simp only [List.getElem?_map] at z
    rw [List.getElem?_eq_getElem hi, ei] at z
    simpa using z
  obtain ⟨fd, F⟩ := He.DefD.funD h2 h1
  have e1 : d.d.dvs K = [] := by unfold He.DefD.dvs; rw [d.hd]; rfl
  have e2 : d.d.kws K = [] := by unfold He.DefD.kws; rw [d.hk]; rfl
  rw [e1, e2] at F
  exact ⟨fd, F⟩
end
end EV
namespace EV
open PySem PySem.Spec PyProof.Rows L2
section
variable {p : PD} {K : PySem.W.Frag} {mg : Str → Option Value} {h : Heap} {P : Program} {w : World} {base : Heap}
def PD.ca (p : PD) (K : PySem.W.Frag) : Ci := ⟨fun c => He.ga K (p.cls c), none⟩
def PD.ec (p : PD) (K : PySem.W.Frag) (c : Nat) : Addr := He.ga K (p.ex.getD c Str.empty)
structure Ctx (p : PD) (K : PySem.W.Frag) (mg : Str → Option Value) (h : Heap) : Prop where
  ok : p.ok = true
  kin : K.In h
  ns : h.Ns mainGlobals mg
  says : p.says K
theorem ex_get {l : List Str} {c : Nat} {x : Str} (e : l[c]? = some x) : l.getD c Str.empty = x := by simp [List.getD, e]
theorem Ctx.clb (c : Ctx p K mg h) : p.clB K = true := (b2 (says_ex c.says)).1
theorem Ctx.exb (c : Ctx p K mg h) : p.exR K = true := (b2 (says_ex c.says)).2
theorem Ctx.glo (c : Ctx p K mg h) {d : PDef} (hd : d ∈ p.defs) (h0 : d.d.at_.2 = none) : mg d.d.name = some (.ref (He.ga K d.d.name)) := by
  have z := List.all_eq_true.mp (b2 c.exb).1 d hd
  rw [h0] at z
  exact He.glo_ok c.kin c.ns z
/-- a class -/
theorem Ctx.cl (c : Ctx p K mg h) {i : Nat} {x : Str} {g : Nat} (hi : p.cl[i]? = some (x, g)) : p.cls i = x ∧ mg x = some (.ref (He.ga K x)) ∧ Cls K (He.ga K x) ∧ (∀ f ∈ p.flds, NoAttr K (He.ga K x) f) ∧ Mk K (He.ga K x) (He.ma K (He.ga K x) "__init__") ∧ p.defAt K g (He.ma K (He.ga K x) "__init__") = true := by
  have z := List.all_eq_true.mp (b2 c.clb).1 (x, g) (List.mem_of_getElem? hi)
  obtain ⟨z1, z2⟩ := b2 z
  obtain ⟨z2, z3⟩ := b2 z2
  obtain ⟨z3, z4⟩ := b2 z3
  obtain ⟨z4, z5⟩ := b2 z4
  refine ⟨?_, He.glo_ok c.kin c.ns z1, He.cls_ok z2, fun f hf => He.noat_ok (List.all_eq_true.mp z3 f hf), He.mkr_ok z4, z5⟩
  unfold PD.cls
  rw [List.getD_eq_getElem?_getD, hi]; rfl
theorem Ctx.mt (c : Ctx p K mg h) {i : Nat} {m : Str} {g : Nat} (hm : p.mth i m = some g) : Meth K (He.ga K (p.cls i)) m (He.ma K (He.ga K (p.cls i)) m) ∧ p.defAt K g (He.ma K (He.ga K (p.cls i)) m) = true := by
  unfold PD.mth at hm
  cases q : p.mts.find? fun q => decide (q.1 = i) && decide (q.2.1 = m) with
  | none => rw [q] at hm; cases hm
  | some t =>
    rw [q] at hm
    have e1 := List.find?_some q
    have e2 := List.mem_of_find?_eq_some q
    obtain ⟨e3, e4⟩ := b2 e1
    have e3 := ofd e3
    have e4 := ofd e4
    cases hm
    obtain ⟨z1, z2⟩ := b2 (List.all_eq_true.mp (b2 c.clb).2 t e2)
    rw [e3, e4] at z1 z2
    exact ⟨He.meth_ok z1, z2⟩
theorem Ctx.exs (c : Ctx p K mg h) {i : Nat} {x : Str} (hx : p.ex[i]? = some x) : mg x = some (.ref (p.ec K i)) ∧ (He.Fa.exc x).ok K = true ∧ excB K (p.ec K i) = true ∧ p.ec K i = He.ga K x := by
  have e : p.ec K i = He.ga K x := by unfold PD.ec; rw [ex_get hx]
  have z := List.all_eq_true.mp (b2 (b2 c.exb).2).1 x (List.mem_of_getElem? hx)
  obtain ⟨z1, z2⟩ := b2 z
  obtain ⟨z2, z3⟩ := b2 z2
  exact ⟨by rw [e]; exact He.glo_ok c.kin c.ns z1, z2, by rw [e]; exact z3, e⟩
theorem Ctx.free (c : Ctx p K mg h) {x : Str} (hx : x ∈ bltNames) : mg x = none :=
  He.free_ok c.kin c.ns (List.all_eq_true.mp (b2 (b2 (b2 c.exb).2).2).1 x hx)
theorem Ctx.glb (c : Ctx p K mg h) {g : Nat} {q : Str × Gv} (hq : p.gl[g]? = some q) : glB_ K q = true :=
  List.all_eq_true.mp (b2 (b2 (b2 (b2 c.exb).2).2).2).1 q (List.mem_of_getElem? hq)
theorem Ctx.subs (c : Ctx p K mg h) {d e : Nat} (hd : d < p.ex.length) (he : e < p.ex.length) :
    PySem.W.exmOne K (.ref (p.ec K d)) (.ref (p.ec K e)) = some (p.sub d e) ∧ PySem.W.kitOne K (.ref (p.ec K d)) (.ref (p.ec K e)) = some (p.sub d e) := by
  have z := (b2 (b2 (b2 (b2 c.exb).2).2).2).2
  have z1 := List.all_eq_true.mp z d (List.mem_range.mpr hd)
  have z2 := List.all_eq_true.mp z1 e (List.mem_range.mpr he)
  obtain ⟨z3, z4⟩ := b2 z2
  exact ⟨ofd z3, ofd z4⟩
theorem Ctx.pd (c : Ctx p K mg h) {d : PDef} (hd : d ∈ p.defs) : d.ok p = true := List.all_eq_true.mp c.ok d hd
/-- what a def's promise says at the level k -/
def FnAt (p : PD) (P : Program) (w : World) (K : PySem.W.Frag) (mg : Str → Option Value) (base : Heap) (k f : Nat) (d : PDef) : Prop :=
  ∀ fd, FunD K d.d.name d.d.qual d.d.params d.d.body d.d.scope [] [] (He.fAd K d.d.at_) fd → FnOk P w K mg base (L2.CX P w) (2 * k) (He.fAd K d.d.at_) fd d.ps (spF K (p.ca K) (p.ec K) (run p.prg k f) d.ps.length)
theorem gl_rep {W : Wd} (c : Ctx p K mg h) {g : Nat} {x : Str} {v : Gv} (hq : p.gl[g]? = some (x, v)) : ∃ u y, mg x = some u ∧ RelV y u ∧ ∀ W, Rep K W y v.dt := by
  have z := c.glb hq
  cases v with
  | int i =>
    obtain ⟨t, e⟩ := He.int_ok c.kin c.ns z
    exact ⟨_, .int i, e, ⟨t, rfl⟩, fun W => .int i⟩
  | str y =>
    obtain ⟨t, e⟩ := He.str_ok c.kin c.ns z
    exact ⟨_, .str y, e, ⟨t, rfl⟩, fun W => .str y⟩
  | tup vs =>
    obtain ⟨z1, z2⟩ := b2 z
    obtain ⟨z2, z3⟩ := b2 z2
    exact ⟨_, .ref (He.ga K x), He.glo_ok c.kin c.ns z1, rfl, fun W => .tup (He.tupB_ok z2 W.G) (dv_rep z3)⟩
theorem fn_at (c : Ctx p K mg h) : ∀ (k : Nat) (f : Nat) (d : PDef), p.defs[f]? = some d → FnAt p P w K mg base k f d
  | 0, f, d, hd => fun fd F => ⟨fun vs H Q E ⟨W, S, ro, ds, hl, _⟩ => hl, fun A outer s H args us vs Q E hr he hb hv ⟨W, S, ro, ds, hl, _, _, z⟩ => z.elim⟩
  | k + 1, f, d, hd => fun fd F => by
    have hm : d ∈ p.defs := List.mem_of_getElem? hd
    obtain ⟨o1, k1⟩ := b2 (c.pd hm)
    obtain ⟨o2, k2⟩ := b2 k1
    obtain ⟨o3, o4⟩ := b2 k2
    obtain ⟨S, hkind⟩ := fs_of o1
    have hn : d.fn.n = d.N.length := ofd o3
    refine F.ok S (fun vs H Q E ⟨W, S, ro, ds, hl, _⟩ => hl) fun cdv A outer s H vs Q E hr hsp => ?_
    -- the facts of the body
    have hat : ∀ {d' : PDef}, d' ∈ p.defs → d'.d.at_.2 = none → He.fAd K d'.d.at_ = He.ga K d'.d.name := fun {d'} hm' h0 => by
      obtain ⟨_, q1⟩ := b2 (c.pd hm')
      obtain ⟨_, q2⟩ := b2 q1
      obtain ⟨_, q3⟩ := b2 q2
      generalize hat : d'.d.at_ = at_ at q3 h0
      obtain ⟨a1, a2⟩ := at_
      cases h0
      have e := ofd q3
      show He.fAd K (a1, none) = _
      rw [show a1 = d'.d.name from e]
      rfl
    have callee : ∀ {f' : Nat} {d' : PDef}, p.defs[f']? = some d' → ∃ fd', FnOk P w K mg base (L2.CX P w) (2 * k) (He.fAd K d'.d.at_) fd' d'.ps (spF K (p.ca K) (p.ec K) (run p.prg k f') d'.ps.length) ∧ Binds K fd' d'.ps [] ∧ (∀ ro ds S, run p.prg k f' ro ds S ≠ .stuck → ds.length = d'.ps.length) ∧ PySem.W.keepIn K (.ref (He.fAd K d'.d.at_)) = true := fun {f' d'} q => by
      have hm' : d' ∈ p.defs := List.mem_of_getElem? q
      obtain ⟨fd', F'⟩ := says_def c.says hm'
      refine ⟨fd', fn_at c k f' d' q fd' F', F'.bindsN d'.bd, fun ro ds S hs => ?_, F'.kp⟩
      cases k with
      | zero => exact absurd rfl hs
      | succ j =>
        have ha : p.prg.ar f' = d'.ps.length := by show (p.defs[f']?.map fun d => d.ps.length).getD 0 = _; rw [q]; rfl
        by_cases z : ds.length = p.prg.ar f'
        · rw [z, ha]
        · exact absurd (show run p.prg (j + 1) f' ro ds S = .stuck from if_neg z) hs
    have dat : ∀ {g : Nat} {a : Addr}, p.defAt K g a = true → ∃ d', p.defs[g]? = some d' ∧ He.fAd K d'.d.at_ = a := fun {g a} hd => by
      unfold PD.defAt at hd
      cases q : p.defs[g]? with
      | none => rw [q] at hd; cases hd
      | some d' => rw [q] at hd; exact ⟨d', rfl, ofd hd⟩
    have C : Oks ⟨run p.prg k, p.fuel, p.prg.glob, p.sub, p.ex.length, p.cl.length, p.mth⟩ (p.nm d) (p.ca K) (p.ec K) (2 * k) (fun cls d' _ H => E cls d' H) true d.d.scope (cxOf (L2.CX P w) P w K mg base d.N d.d.qual d.d.scope (He.fAd K d.d.at_) cdv A outer s H E) := by
      refine ⟨⟨rfl, S.nd, rfl, fun _ => rfl, ?_, fun _ => hr, fun _ f' x hf hne => ?_, fun g x hg => ?_, fun x hx => c.free hx, takes_of rfl rfl rfl rfl, fun e x hx => (c.exs hx).1, fun _ => rfl, fun _ i m g hm hi => ?_, fun i hi => ?_, fun _ i x g hi => ?_, fun a d' h => by cases h⟩, fun x _ => .inl rfl, passes_of rfl, fun _ => rfl, fun _ => rfl, hkind, fun e x hx => ?_, fun d' e x hlt hx => ?_, fun d' hlt => ?_⟩
      · have := hr.un
        show (A.deeper (envOfC d.d.qual d.d.scope s.heap.objs.size (He.fAd K d.d.at_) cdv)).units + 66 < cLine
        omega
      · -- a callee
        have hf : p.names[f']? = some x := hf
        unfold PD.names at hf
        rw [List.getElem?_map] at hf
        cases q : p.defs[f']? with
        | none => rw [q] at hf; cases hf
        | some d' =>
          rw [q] at hf
          have hm' : d' ∈ p.defs := List.mem_of_getElem? q
          cases h0 : d'.d.at_.2 with
          | some m0 =>
            have ex : x = Str.empty := by
              have hf : (match d'.d.at_.2 with
                | none => d'.d.name
                | some _ => Str.empty) = x := Option.some.inj hf
              rw [h0] at hf
              exact hf.symm
            exact absurd ex hne
          | none =>
            have ex : d'.d.name = x := by
              have hf : (match d'.d.at_.2 with
                | none => d'.d.name
                | some _ => Str.empty) = x := Option.some.inj hf
              rw [h0] at hf
              exact hf
            subst ex
            obtain ⟨fd', F', B', ar', kp'⟩ := callee q
            refine ⟨He.fAd K d'.d.at_, fd', d'.ps, ?_, kp', F', B', ar'⟩
            rw [hat hm' h0]
            exact c.glo hm' h0
      · have hg : (p.gl.map (·.1))[g]? = some x := hg
        rw [List.getElem?_map] at hg
        cases q : p.gl[g]? with
        | none => rw [q] at hg; cases hg
        | some qv =>
          rw [q] at hg
          obtain ⟨y, v⟩ := qv
          have ey : y = x := by simpa using hg
          subst ey
          obtain ⟨u, z, e1, e2, e3⟩ := gl_rep (W := ⟨fun _ => none, fun _ => 0, 0, none⟩) c q
          refine ⟨u, z, e1, e2, fun W => ?_⟩
          show Rep K W z ((p.gl[g]?.map fun q => q.2.dt).getD .non)
          rw [q]
          exact e3 W
      · obtain ⟨M, D⟩ := c.mt hm
        obtain ⟨d', q, ea⟩ := dat D
        obtain ⟨fd', F', B', ar', kp'⟩ := callee q
        rw [ea] at F'
        exact ⟨_, fd', d'.ps, M, F', B', ar'⟩
      · obtain ⟨e1, _, e3, e4, _⟩ := c.cl (List.getElem?_eq_getElem hi)
        rw [← e1] at e3 e4
        exact ⟨e3, e4⟩
      · obtain ⟨e1, e2, _, _, e5, e6⟩ := c.cl hi
        obtain ⟨d', q, ea⟩ := dat e6
        obtain ⟨fd', F', B', ar', kp'⟩ := callee q
        rw [ea] at F'
        subst e1
        exact ⟨e2, _, fd', d'.ps, e5, F', B', ar'⟩
      · obtain ⟨_, z, _, ee⟩ := c.exs hx
        have y := He.exc_ok z
        rw [← ee] at y
        exact y
      · exact (c.subs hlt (List.getElem?_eq_some_iff.mp hx).1).1
      · obtain ⟨_, _, z, _⟩ := c.exs (List.getElem?_eq_getElem hlt)
        exact ⟨excC_of z, fun e y hy => (c.subs hlt (List.getElem?_eq_some_iff.mp hy).1).2⟩
    refine ⟨_, soundSs d.fn.body C d.d.body o2, ?_⟩
    obtain ⟨W, S0, ro, ds, hl, g, rs, z⟩ := hsp
    have hlen : ds.length = vs.length := rs.length.symm
    have har : p.prg.ar f = d.ps.length := by show (p.defs[f]?.map fun d => d.ps.length).getD 0 = _; rw [hd]; rfl
    have hfn : p.prg.fn f = d.fn := by show (p.defs[f]?.map (·.fn)).getD ⟨0, .nil⟩ = _; rw [hd]; rfl
    have er : run p.prg (k + 1) f ro ds S0 = runB ⟨run p.prg k, p.fuel, p.prg.glob, p.sub, p.ex.length, p.cl.length, p.mth⟩ d.fn ro ds S0 := by
      show (if ds.length = p.prg.ar f then runB ⟨run p.prg k, p.prg.fuel, p.prg.glob, p.prg.sub, p.prg.nex, p.prg.ncl, p.prg.mth⟩ (p.prg.fn f) ro ds S0 else .stuck) = _
      rw [if_pos (by rw [hlen, hl, har]), hfn]
      rfl
    rw [er] at z
    generalize hst : (⟨ds.map .val ++ List.replicate (d.fn.n - ds.length) .none, S0, ro⟩ : Sta) = st0
    have hS0 : st0.S = S0 := by rw [← hst]
    have hro : st0.ro = ro := by rw [← hst]
    have hpl : d.ps.length ≤ d.N.length := by have := congrArg List.length S.pre; rw [List.length_take] at this; omega
    have noown : ∀ {i : Nat} {sl : Sl}, st0.env[i]? = some sl → sl.isOwn = false := fun {i sl} e => by
      rw [← hst] at e
      have e : (ds.map Sl.val ++ List.replicate (d.fn.n - ds.length) Sl.none)[i]? = some sl := e
      have m := List.mem_of_getElem? e
      rcases List.mem_append.mp m with m | m
      · obtain ⟨x, _, rfl⟩ := List.mem_map.mp m; rfl
      · rw [(List.mem_replicate.mp m).2]; rfl
    have lv : ∀ {o}, Live st0 o ↔ Live ⟨[], S0, ro⟩ o := fun {o} => by
      cases o with
      | slot i => exact ⟨fun ⟨sl, e, so⟩ => (by rw [noown e] at so; cases so), fun ⟨sl, e, so⟩ => (by simp at e)⟩
      | box n => show (∃ ob, st0.S[n]? = some ob ∧ _) ↔ _; rw [hS0]; exact Iff.rfl
      | dx n => show (∃ c fs, st0.S[n]? = some (.ins c fs)) ↔ _; rw [hS0]; exact Iff.rfl
      | fld n x => show (∃ c fs sl, st0.S[n]? = some (.ins c fs) ∧ _) ↔ _; rw [hS0]; exact Iff.rfl
    have g0 : Good K (p.ca K) W st0 (start d.N vs) H := by
      refine ⟨g.gh, fun o o' l l' => g.inj o o' (lv.mp l) (lv.mp l'), fun o l => g.out o (lv.mp l), fun i sl e => ?_, fun n ob e => g.obj n ob (by rw [← hS0]; exact e), ?_, by rw [hS0]; exact g.nb, g.xa⟩
      · rw [← hst] at e
        have e : (ds.map Sl.val ++ List.replicate (d.fn.n - ds.length) Sl.none)[i]? = some sl := e
        by_cases lt : i < ds.length
        · rw [List.getElem?_append_left (by simpa using lt), List.getElem?_map, List.getElem?_eq_getElem lt] at e
          cases e
          obtain ⟨v, e1, r⟩ := rs.get (List.getElem?_eq_getElem lt)
          refine ⟨v, ?_, r⟩
          show ((vs.map some ++ List.replicate (d.N.length - vs.length) none)[i]?).join = some v
          rw [List.getElem?_append_left (by rw [List.length_map, ← hlen]; exact lt), List.getElem?_map, e1]
          rfl
        · rw [List.getElem?_append_right (by simpa using lt)] at e
          have m := List.mem_of_getElem? e
          rw [(List.mem_replicate.mp m).2]
          trivial
      · rw [← hst]
        show (vs.map some ++ List.replicate (d.N.length - vs.length) none).length = (ds.map Sl.val ++ List.replicate (d.fn.n - ds.length) Sl.none).length
        simp only [List.length_append, List.length_map, List.length_replicate]
        rw [hlen, hn]
    refine ⟨W, st0, g0, ?_⟩
    -- back
    have fb : ∀ {W' : Wd} {st1 : Sta} {H' : Hp}, Frm W st0 H W' st1 H' → Frm W ⟨[], S0, ro⟩ H W' ⟨[], st1.S, ro⟩ H' := fun {W' st1 H'} f => by
      have t0 : ∀ {a}, Tt W st0 a ↔ Tt W ⟨[], S0, ro⟩ a := fun {a} => ⟨fun ⟨o, l, e⟩ => ⟨o, lv.mp l, e⟩, fun ⟨o, l, e⟩ => ⟨o, lv.mpr l, e⟩⟩
      refine ⟨f.ext, fun a o h t => f.keep a o h fun z => t (t0.mp z), f.dom, fun a ⟨o, l, e⟩ => ?_, fun a h => ?_, rfl, fun r n ob e => ?_, fun r o so l => ?_⟩
      · rcases f.fresh a ⟨o, (live_sto (noslot l)).mpr l, e⟩ with z | z
        · exact .inl (t0.mp z)
        · exact .inr z
      · rcases f.gnew a h with z | z | z
        · exact .inl z
        · exact .inr (.inl z)
        · exact .inr (.inr (t0.mp z))
      · exact f.roS (by rw [hro]; exact r) n ob (by rw [hS0]; exact e)
      · exact f.roM (by rw [hro]; exact r) o so (lv.mpr l)
    have gb : ∀ {W' : Wd} {st1 : Sta} {σ' : L2.St} {H' : Hp}, Good K (p.ca K) W' st1 σ' H' → Good K (p.ca K) W' ⟨[], st1.S, ro⟩ [] H' := fun {W' st1 σ' H'} g' =>
      ⟨g'.gh, fun o o' l l' => g'.inj o o' ((live_sto (noslot l)).mpr l) ((live_sto (noslot l')).mpr l'), fun o l => g'.out o ((live_sto (noslot l)).mpr l), fun i sl e => by simp at e, g'.obj, rfl, g'.nb, g'.xa⟩
    unfold runB at z
    rw [hst] at z
    show PostS K (p.ca K) (p.ec K) _ W st0 H (evSs _ d.fn.body st0) _
    cases em : evSs ⟨run p.prg k, p.fuel, p.prg.glob, p.sub, p.ex.length, p.cl.length, p.mth⟩ d.fn.body st0 with
    | stuck => rw [em] at z; exact z.elim
    | exc e st1 =>
      rw [em] at z
      exact fun W' σ' H' f g' => z W' H' (fb f) (gb g')
    | ok fl st1 =>
      rw [em] at z
      intro W' σ' H' f g'
      cases fl with
      | bk => exact z.elim
      | ct => exact z.elim
      | nx => exact z W' H' .non (fb f) (gb g') .non
      | rt hh =>
        intro v r
        by_cases hv : (Fl.rt hh).vn = true
        · simp only [hv, if_true] at z
          refine z W' H' v (fb f) (gb g') ?_
          have ts : ∀ {a}, Tt W' ⟨[], st1.S, ro⟩ a → Tt W' st1 a := fun ⟨o, l, e⟩ => ⟨o, (live_sto (noslot l)).mpr l, e⟩
          have t0 : ∀ {a}, Tt W st0 a → Tt W ⟨[], S0, ro⟩ a := fun ⟨o, l, e⟩ => ⟨o, lv.mp l, e⟩
          cases hh with
          | val d => exact r
          | new ds =>
            obtain ⟨q, us, e, h1, h2, h3, h4, h5⟩ := r
            exact ⟨q, us, e, h1, h2, h3, fun y => h4 (ts y), h5.imp_right t0⟩
          | newd ds =>
            obtain ⟨q, us, e, h1, h2, h3, h4, h5⟩ := r
            exact ⟨q, us, e, h1, h2, h3, fun y => h4 (ts y), h5.imp_right t0⟩
          | own i => cases hv
          | fld n x => cases hv
        · simp only [hv] at z
          exact z.elim
/-- THE END: a law whose run in the small language gives True -/
theorem law_walk {l : PySem.W.OpenLaw} {q : Program} {loose : List Str} {XP : (Str → Option Value) → Heap → Prop} {d : DefRec} {p : PD} {n kk f : Nat} {pf : PDef} {x : Str} (hn : l.most = some 63) (hdf : d.params.defaults = []) (hr : Room (2 * kk) callerA)
    (hok : p.ok = true) (hf : p.defs[f]? = some pf) (hat : pf.d.at_.2 = none) (hname : d.name = pf.d.name) (hps : pf.ps = [x])
    (H : ∀ ns : List Int, ns.length ≤ 63 → ∃ S, run p.prg kk f false [.slst (ns.map .int)] [] = .ok (.val (.bl true)) S) :
    PySem.W.WalkO q loose XP (hookP n p).says l.row.toRowW d [] (fun f vs => PySem.call f vs) := by
  refine Att.attach_call hn hdf fun w s₀ s₁ mg mb fa o pm cd doc a vs ns G Y ho hd hcd hmg hobj hints hlen hg => ?_
  obtain ⟨K, KX, c⟩ := Y
  have C : Ctx p K mg _ := ⟨hok, KX, G.T.g, c⟩
  have hm : pf ∈ p.defs := List.mem_of_getElem? hf
  obtain ⟨fd, F⟩ := says_def c hm
  have hfa : fa = He.fAd K pf.d.at_ := by
    have e1 := C.glo hm hat
    rw [← hname, hmg] at e1
    obtain ⟨_, q1⟩ := b2 (C.pd hm)
    obtain ⟨_, q2⟩ := b2 q1
    obtain ⟨_, q3⟩ := b2 q2
    have e2 : He.fAd K pf.d.at_ = He.ga K pf.d.name := by
      generalize hat' : pf.d.at_ = at_ at q3 hat
      obtain ⟨a1, a2⟩ := at_
      cases hat
      show He.fAd K (a1, none) = _
      rw [show a1 = pf.d.name from ofd q3]
      rfl
    rw [e2, ← hname]
    exact Value.ref.inj (Option.some.inj e1)
  subst hfa
  refine law_call (fd := fd) (CX := L2.CX l.prog w) (sp := spF K (p.ca K) (p.ec K) (run p.prg kk f) pf.ps.length) (x := x) KX G.T.g G.T.b G.T.builtins G.T.nolimit hg hobj hints (Nat.le_trans hlen (by decide)) hr (fun base hK hN => ?_) (fun s u => ?_) (fun H' hO hS => ?_) fun H' e s' hx => ?_
  · have := fn_at (P := l.prog) (w := w) (base := base) C kk f pf hf fd F
    rw [hps] at this ⊢
    exact this
  · have := F.bindsA pf.bd s [u] (by rw [hps]; rfl)
    rw [hps] at this
    exact this
  · obtain ⟨S, e⟩ := H ns hlen
    refine ⟨⟨H', fun _ => 0, 0, none⟩, [], false, [.slst (ns.map .int)], by rw [hps]; rfl, ⟨Same.refl _, fun o o' l => ?_, fun o l => ?_, fun i sl e => by simp at e, fun n ob e => by simp at e, rfl, rfl, rfl⟩, .cons (.slst hS (Reps.ints ns)) .nil, ?_⟩
    · cases o with
      | slot i => obtain ⟨_, e, _⟩ := l; simp at e
      | box i => obtain ⟨_, e, _⟩ := l; simp at e
      | dx i => obtain ⟨_, _, e⟩ := l; simp at e
      | fld i y => obtain ⟨_, _, _, e, _⟩ := l; simp at e
    · cases o with
      | slot i => obtain ⟨_, e, _⟩ := l; simp at e
      | box i => obtain ⟨_, e, _⟩ := l; simp at e
      | dx i => obtain ⟨_, _, e⟩ := l; simp at e
      | fld i y => obtain ⟨_, _, _, e, _⟩ := l; simp at e
    · rw [e]
      intro W' H'' v fr g' r
      cases r
      rfl
  · obtain ⟨_, _, _, _, _, _, _, _, _, _, _, _, z⟩ := hx
    exact z
end
end EV
namespace EV
open PySem PySem.Spec PyProof.Rows L2

/-! ### what a run must answer -/
def W {α : Type} (r : Res α) (Q : α → Sta → Prop) (X : Nat → Sta → Prop) : Prop := match r with
  | .ok a st => Q a st
  | .exc c st => X c st
  | .stuck => False
def WC (r : CRes) (Q : Hd → List Ob → Prop) (X : Nat → List Ob → Prop) : Prop := match r with
  | .ok h S => Q h S
  | .exc c S => X c S
  | .stuck => False
/-- holds Q still: simp does not look into what depends on it -/
structure Tok {α : Sort u} (Q : α) : Type where
def WK (r : CRes) (Q : Hd → List Ob → Prop) (X : Nat → List Ob → Prop) (t : Tok Q) : Prop := WC r Q X
def TW (h : Hd) (P : Bool → Prop) : Prop := match h with
  | .val (.bl b) => P b
  | _ => False
def DW (h : Hd) (P : Dt → Prop) : Prop := match h with
  | .val d => P d
  | .new ds => P (.lst ds)
  | _ => False
def IT (k : Bool) (A B : Prop) : Prop := (k = true → A) ∧ (k = false → B)
def SlW (o : Option Sl) (i : Nat) (P : Hd → Prop) : Prop := match o with
  | some (.val d) => P (.val d)
  | some (.own _) => P (.own i)
  | some (.ownd _) => P (.own i)
  | _ => False
def OW {α : Type} (o : Option α) (P : α → Prop) : Prop := match o with
  | some h => P h
  | none => False
def FW (Γ : Gm) (ss : Ss) (fl : Fl) (st : Sta) (Q : Fl → Sta → Prop) (X : Nat → Sta → Prop) : Prop := match fl with
  | .nx => W (evSs Γ ss st) Q X
  | fl => Q fl st
def RW (h : Hd) (st : Sta) (Q : Fl → Sta → Prop) : Prop := match h with
  | .val d => Q (.rt (.val d)) st
  | .new ds => Q (.rt (.new ds)) st
  | .newd ds => Q (.rt (.newd ds)) st
  | .own i => (match st.env[i]? with
    | some (.own ds) => Q (.rt (.new ds)) (st.setE i .none)
    | _ => False)
  | _ => False
def bodyF (Γ : Gm) (t : Tg) (body : Ss) : Dt → Sta → Res Fl := fun d s => match t.set s d with
      | some s1 => evSs Γ body s1
      | none => .stuck
def LW (Γ : Gm) (t : Tg) (body : Ss) (v : Itv) (st : Sta) (Q : Fl → Sta → Prop) (X : Nat → Sta → Prop) (tok : Tok Q) : Prop := W (loopF v (bodyF Γ t body) (v.len st) 0 st) Q X
def CW (Γ : Gm) (elt : E) (tg : Tg) (cond : E) (own : List Nat) (v : Itv) (st1 : Sta) (Q : Hd → Sta → Prop) (X : Nat → Sta → Prop) (tok : Tok Q) : Prop := ownFree own st1.env = true ∧
    W (loopC v own tg (fun s => (evE Γ cond s).truth.noexc) (fun s => (evE Γ elt s).dt.noexc) (v.len st1) 0 [] st1) (fun ds st2 => Q (.new ds) { st2 with env := putBack own st1.env st2.env }) X
def Gam (p : Prg) (k : Nat) : Gm := ⟨run p k, p.fuel, p.glob, p.sub, p.nex, p.ncl, p.mth⟩
theorem Gam_glob (p : Prg) (k g : Nat) : (Gam p k).glob g = p.glob g := rfl

theorem W_ok {α : Type} (a : α) (st : Sta) (Q : α → Sta → Prop) (X) : W (.ok a st) Q X = Q a st := rfl
theorem W_exc {α : Type} (c : Nat) (st : Sta) (Q : α → Sta → Prop) (X) : W (.exc c st) Q X = X c st := rfl
theorem W_bind {α β : Type} (r : Res α) (f : α → Sta → Res β) (Q : β → Sta → Prop) (X) : W (r.bind f) Q X = W r (fun a st => W (f a st) Q X) X := by cases r <;> rfl
theorem W_mono {α : Type} {r : Res α} {Q Q' : α → Sta → Prop} {X X'} (h : W r Q X) (hq : ∀ a st, Q a st → Q' a st) (hx : ∀ a st, X a st → X' a st) : W r Q' X' := by
  cases r with
  | ok a st => exact hq a st h
  | exc c st => exact hx c st h
  | stuck => exact h
theorem WC_ok (h : Hd) (S : List Ob) (Q X) : WC (.ok h S) Q X = Q h S := rfl
theorem WK_ok (h : Hd) (S : List Ob) (Q X t) : WK (.ok h S) Q X t = Q h S := rfl
theorem WK_exc (c : Nat) (S : List Ob) (Q X t) : WK (.exc c S) Q X t = X c S := rfl
theorem WC_exc (c : Nat) (S : List Ob) (Q X) : WC (.exc c S) Q X = X c S := rfl
theorem W_truth (r : Res Hd) (Q X) : W r.truth Q X = W r (fun h st => TW h (fun b => Q b st)) X := by
  unfold Res.truth
  rw [W_bind]
  congr 1
  funext h st
  cases h with
  | val d => cases d <;> rfl
  | _ => rfl
theorem W_dt (r : Res Hd) (Q X) : W r.dt Q X = W r (fun h st => DW h (fun b => Q b st)) X := by
  unfold Res.dt
  rw [W_bind]
  congr 1
  funext h st
  cases h <;> rfl
theorem W_ofO (st : Sta) (o : Option Hd) (Q X) : W (ofO st o) Q X = OW o (fun h => Q h st) := by cases o <;> rfl
theorem TW_b (b : Bool) (P) : TW (.val (.bl b)) P = P b := rfl
theorem DW_v (d : Dt) (P) : DW (.val d) P = P d := rfl
theorem DW_n (d : List Dt) (P) : DW (.new d) P = P (.lst d) := rfl
theorem IT_t (A B : Prop) : IT true A B = A := by simp [IT]
theorem IT_f (A B : Prop) : IT false A B = B := by simp [IT]
theorem IT_d (p : Prop) [Decidable p] (A B : Prop) : IT (decide p) A B = ((p → A) ∧ (¬p → B)) := by simp [IT]
theorem IT_n (b : Bool) (A B : Prop) : IT (!b) A B = IT b B A := by cases b <;> simp [IT]
theorem IT_a (a b : Bool) (A B : Prop) : IT (a && b) A B = IT a (IT b A B) B := by cases a <;> cases b <;> simp [IT]
theorem SlW_v (d : Dt) (i P) : SlW (some (.val d)) i P = P (.val d) := rfl
theorem SlW_d (d) (i P) : SlW (some (.ownd d)) i P = P (.own i) := rfl
theorem SlW_o (d) (i P) : SlW (some (.own d)) i P = P (.own i) := rfl
theorem OW_s {α : Type} (h : α) (P : α → Prop) : OW (some h) P = P h := rfl
theorem FW_nx (Γ ss st Q X) : FW Γ ss .nx st Q X = W (evSs Γ ss st) Q X := rfl
theorem FW_rt (Γ ss st h Q X) : FW Γ ss (.rt h) st Q X = Q (.rt h) st := rfl
theorem FW_bk (Γ ss st Q X) : FW Γ ss .bk st Q X = Q .bk st := rfl
theorem FW_ct (Γ ss st Q X) : FW Γ ss .ct st Q X = Q .ct st := rfl
theorem RW_v (d st Q) : RW (.val d) st Q = Q (.rt (.val d)) st := rfl
theorem RW_n (d st Q) : RW (.new d) st Q = Q (.rt (.new d)) st := rfl
theorem RW_o (i st Q) : RW (.own i) st Q = (match st.env[i]? with
    | some (.own ds) => Q (.rt (.new ds)) (st.setE i .none)
    | _ => False) := rfl
theorem bh_v {α : Type} (d : Dt) (f : Sta → Res α) (s : Sta) : behind (.val d) f s = f s := rfl
theorem bh_n {α : Type} (d : List Dt) (f : Sta → Res α) (s : Sta) : behind (.new d) f s = f s := rfl
theorem bh_nd {α : Type} (d) (f : Sta → Res α) (s : Sta) : behind (.newd d) f s = f s := rfl
theorem bh_o {α : Type} (d : Nat) (f : Sta → Res α) (s : Sta) : behind (.own d) f s = f s := rfl

section
variable (Γ : Gm) (env : List Sl) (T : List Ob) (ro : Bool)
theorem W_var (i : Nat) (Q X) : W (evE Γ (.var i) ⟨env, T, ro⟩) Q X = SlW env[i]? i (fun h => Q h ⟨env, T, ro⟩) := by
  simp only [evE]
  generalize env[i]? = o
  match o with
  | none => rfl
  | some sl => cases sl <;> rfl
theorem W_cst (d : Dt) (Q X) : W (evE Γ (.cst d) ⟨env, T, ro⟩) Q X = Q (.val d) ⟨env, T, ro⟩ := rfl
theorem W_glob (g : Nat) (Q X) : W (evE Γ (.glob g) ⟨env, T, ro⟩) Q X = Q (.val (Γ.glob g)) ⟨env, T, ro⟩ := rfl
theorem W_bin (o : BOp) (a b : E) (Q X) : W (evE Γ (.bin o a b) ⟨env, T, ro⟩) Q X = W (evE Γ a ⟨env, T, ro⟩) (fun x st1 => W (behind x (evE Γ b) st1) (fun y st2 => OW (binD o st2 x y) (fun h => Q h st2)) X) X := by
  simp only [evE, W_bind, W_ofO]
theorem W_cmp (o : COp) (a b : E) (Q X) : W (evE Γ (.cmp o a b) ⟨env, T, ro⟩) Q X = W (evE Γ a ⟨env, T, ro⟩) (fun x st1 => W (behind x (evE Γ b) st1) (fun y st2 => OW (cmpD o st2 x y) (fun h => Q h st2)) X) X := by
  simp only [evE, W_bind, W_ofO]
theorem W_ix (a b : E) (Q X) : W (evE Γ (.ix a b) ⟨env, T, ro⟩) Q X = W (evE Γ a ⟨env, T, ro⟩) (fun x st1 => W (behind x (evE Γ b) st1) (fun y st2 => OW (ixD st2 x y) (fun h => Q h st2)) X) X := by
  simp only [evE, W_bind, W_ofO]
theorem W_un (o : UOp) (a : E) (Q X) : W (evE Γ (.un o a) ⟨env, T, ro⟩) Q X = W (evE Γ a ⟨env, T, ro⟩) (fun x st1 => OW (unD o x) (fun h => Q h st1)) X := by
  simp only [evE, W_bind, W_ofO]
theorem W_blt (o : Blt) (a : E) (Q X) : W (evE Γ (.blt o a) ⟨env, T, ro⟩) Q X = W (evE Γ a ⟨env, T, ro⟩) (fun x st1 => OW (bltD o st1 x) (fun h => Q h st1)) X := by
  simp only [evE, W_bind, W_ofO]
theorem W_blt2 (o : Blt2) (a b : E) (Q X) : W (evE Γ (.blt2 o a b) ⟨env, T, ro⟩) Q X = W (evE Γ a ⟨env, T, ro⟩) (fun x st1 => W (behind x (evE Γ b) st1) (fun y st2 => OW (blt2D o x y) (fun h => Q h st2)) X) X := by
  simp only [evE, W_bind, W_ofO]
theorem W_bits (a : E) (Q X) : W (evE Γ (.bits a) ⟨env, T, ro⟩) Q X = W (evE Γ a ⟨env, T, ro⟩) (fun x st1 => OW (bitsD x) (fun h => Q h st1)) X := by
  simp only [evE, W_bind, W_ofO]
theorem W_revl (a : E) (Q X) : W (evE Γ (.revl a) ⟨env, T, ro⟩) Q X = W (evE Γ a ⟨env, T, ro⟩) (fun x st1 => OW (revD st1 x) (fun h => Q h st1)) X := by
  simp only [evE, W_bind, W_ofO]
def PaW (h : Hd) (P : Option Int → Prop) : Prop := match h with
  | .val (.int i) => P (some i)
  | _ => False
theorem W_revs (a : E) (Q X) : W (evE Γ (.revs a) ⟨env, T, ro⟩) Q X = W (evE Γ a ⟨env, T, ro⟩) (fun x st1 => OW (revT x) (fun h => Q h st1)) X := by
  simp only [evE, W_bind, W_ofO]
theorem PaW_i (i : Int) (P) : PaW (.val (.int i)) P = P (some i) := rfl
theorem W_partT (m : Sta → Res Hd) (st : Sta) (Q X) : W (partR true m st) Q X = W (m st) (fun y st1 => PaW y (fun o => Q o st1)) X := by
  show W (Res.bind _ _) Q X = _
  rw [W_bind]
  congr 1
  funext y st1
  match y with
  | .val (.int i) => rfl
  | .val (.tup _) | .val .non | .val (.bl _) | .val (.str _) | .val (.lst _) | .val (.slst _) | .val (.box _) | .new _ | .newd _ | .own _ | .fld _ _ => rfl
theorem W_partF (m : Sta → Res Hd) (st : Sta) (Q X) : W (partR false m st) Q X = Q none st := rfl
theorem W_sl (a : E) (l : Bool) (lo : E) (h : Bool) (hi : E) (Q X) : W (evE Γ (.sl a l lo h hi) ⟨env, T, ro⟩) Q X = W (evE Γ a ⟨env, T, ro⟩) (fun x st1 => W (behind x (fun s => (partR l (evE Γ lo) s).bind fun i s1 => (partR h (evE Γ hi) s1).bind fun j s2 => .ok (i, j) s2) st1) (fun p st2 => OW (slD st2 x p.1 p.2) (fun h => Q h st2)) X) X := by
  simp only [evE, W_bind, W_ofO]
theorem W_isi (a : E) (t : Ty) (Q X) : W (evE Γ (.isi a t) ⟨env, T, ro⟩) Q X = W (evE Γ a ⟨env, T, ro⟩) (fun x st1 => OW (isiD t st1 x) (fun h => Q h st1)) X := by
  simp only [evE, W_bind, W_ofO]
theorem W_exi (i c : Nat) (Q X) : W (evE Γ (.exi i c) ⟨env, T, ro⟩) Q X = (match env[i]? with
    | some (.exn d) => Q (.val (.bl (Γ.sub d c))) ⟨env, T, ro⟩
    | _ => False) := by
  simp only [evE]
  generalize env[i]? = o
  match o with
  | none => rfl
  | some sl => cases sl <;> rfl
theorem W_chain (o p : COp) (a b c : E) (Q X) : W (evE Γ (.chain o p a b c) ⟨env, T, ro⟩) Q X = W (evE Γ a ⟨env, T, ro⟩) (fun x st1 => W (behind x (evE Γ b) st1) (fun y st2 => y.isFld = false ∧ OW (cmpD o st2 x y) (fun h => TW h (fun k => IT k (W (behind y (evE Γ c) st2) (fun z st4 => OW (cmpD p st4 y z) (fun h => Q h st4)) X) (Q (.val (.bl false)) st2)))) X) X := by
  simp only [evE, W_bind]
  congr 1
  funext x st1
  congr 1
  funext y st2
  cases hf : y.isFld
  · simp only [Bool.false_eq_true, if_false, true_and, W_bind, W_truth, W_ofO]
    congr 1
    funext h
    congr 1
    funext k
    cases k
    · simp only [Bool.false_eq_true, if_false, IT_f, W_ok]
    · simp only [if_true, IT_t, W_bind, W_ofO]
  · simp only [if_true, Bool.true_eq_false, false_and]
    rfl
theorem W_not (a : E) (Q X) : W (evE Γ (.not a) ⟨env, T, ro⟩) Q X = W (evE Γ a ⟨env, T, ro⟩) (fun h st1 => TW h (fun b => Q (.val (.bl (!b))) st1)) X := by
  simp only [evE, W_bind, W_truth, W_ok]
theorem W_ite {α : Type} (k : Bool) (r s : Res α) (Q X) : W (if k = true then r else s) Q X = IT k (W r Q X) (W s Q X) := by
  cases k
  · simp only [Bool.false_eq_true, if_false, IT_f]
  · simp only [if_true, IT_t]
theorem W_and (a b : E) (Q X) : W (evE Γ (.and a b) ⟨env, T, ro⟩) Q X = W (evE Γ a ⟨env, T, ro⟩) (fun h st1 => TW h (fun k => IT k (W (evE Γ b st1) Q X) (Q (.val (.bl false)) st1))) X := by
  simp only [evE, W_bind, W_truth, W_ite, W_ok]
theorem W_or (a b : E) (Q X) : W (evE Γ (.or a b) ⟨env, T, ro⟩) Q X = W (evE Γ a ⟨env, T, ro⟩) (fun h st1 => TW h (fun k => IT k (Q (.val (.bl true)) st1) (W (evE Γ b st1) Q X))) X := by
  simp only [evE, W_bind, W_truth, W_ite, W_ok]
theorem W_ife (t a b : E) (Q X) : W (evE Γ (.ife t a b) ⟨env, T, ro⟩) Q X = W (evE Γ t ⟨env, T, ro⟩) (fun h st1 => TW h (fun k => IT k (W (evE Γ a st1) Q X) (W (evE Γ b st1) Q X))) X := by
  simp only [evE, W_bind, W_truth, W_ite]
theorem W_dite {α : Type} (p : Prop) [Decidable p] (r : Res α) (Q X) : W (if p then r else .stuck) Q X = (p ∧ W r Q X) := by
  by_cases h : p
  · simp only [h, if_true, true_and]
  · simp only [h, if_false, false_and]; rfl
theorem W_tup (es : Es) (Q X) : W (evE Γ (.tup es) ⟨env, T, ro⟩) Q X = W (evEs Γ es ⟨env, T, ro⟩) (fun ds st1 => ds.length ≤ sizeLine ∧ Q (.val (.tup ds)) st1) X := by
  simp only [evE, W_bind, W_dite, W_ok]
theorem W_lst (es : Es) (Q X) : W (evE Γ (.lst es) ⟨env, T, ro⟩) Q X = W (evEs Γ es ⟨env, T, ro⟩) (fun ds st1 => ds.length ≤ sizeLine ∧ Q (.new ds) st1) X := by
  simp only [evE, W_bind, W_dite, W_ok]
theorem W_call (p : Prg) (k f : Nat) (es : Es) (Q X) : W (evE (Gam p k) (.call f es) ⟨env, T, ro⟩) Q X = W (evEs (Gam p k) es ⟨env, T, ro⟩) (fun ds st1 => WK (run p k f st1.ro ds st1.S) (fun h S => Q h { st1 with S := S }) (fun c S => X c { st1 with S := S }) ⟨⟩) X := by
  simp only [evE, W_bind]
  congr 1
  funext ds st1
  show W (match run p k f st1.ro ds st1.S with | .ok h S => _ | .exc c S => _ | .stuck => _) Q X = _
  cases run p k f st1.ro ds st1.S <;> rfl
theorem W_frz (i : Nat) (Q X) : W (evE Γ (.frz i) ⟨env, T, ro⟩) Q X = (match env[i]? with
    | some (.own ds) => Q (.val (.lst ds)) ⟨env.set i (.val (.lst ds)), T, ro⟩
    | some (.val (.lst ds)) => Q (.val (.lst ds)) ⟨env, T, ro⟩
    | _ => False) := by
  simp only [evE]
  generalize env[i]? = o
  match o with
  | none => rfl
  | some (.own ds) => rfl
  | some (.val d) => cases d <;> rfl
  | some .none => rfl
  | some (.ownd _) => rfl
  | some (.exn _) => rfl
theorem W_mkbox (a : E) (Q X) : W (evE Γ (.mkbox a) ⟨env, T, ro⟩) Q X = W (evE Γ a ⟨env, T, ro⟩) (fun x st1 => (match x with
      | .new ds => Q (.val (.box st1.S.length)) { st1 with S := st1.S ++ [.lst ds] }
      | _ => False)) X := by
  simp only [evE, W_bind]
  congr 1
  funext x st1
  cases x <;> rfl
theorem W_app (a e : E) (Q X) : W (evE Γ (.app a e) ⟨env, T, ro⟩) Q X = W (evE Γ a ⟨env, T, ro⟩) (fun x st1 => (lstOf st1 x).isSome = true ∧ W (behind x (fun s => (evE Γ e s).dt) st1) (fun d st2 => OW (appD st2 x d) (fun st3 => Q (.val .non) st3)) X) X := by
  simp only [evE, W_bind, W_dite]
  congr 1
  funext x st1
  congr 2
  funext d st2
  cases appD st2 x d <;> rfl
/-- behind a field's own list: nothing of the store is changed -/
def RB (b : Bool) {α : Type} (Q : α → Sta → Prop) : α → Sta → Prop := fun a st => Q a (st.setro b)
theorem bh_f {α : Type} (n : Nat) (f : Str) (m : Sta → Res α) (Q X) : W (behind (.fld n f) m ⟨env, T, ro⟩) Q X = W (m ⟨env, T, true⟩) (fun a st => Q a ⟨st.env, st.S, ro⟩) (fun c st => X c ⟨st.env, st.S, ro⟩) := by
  show W ((m ⟨env, T, true⟩).setro ro) Q X = _
  cases m ⟨env, T, true⟩ <;> rfl
theorem W_fld (a : E) (f : Str) (Q X) : W (evE Γ (.fld a f) ⟨env, T, ro⟩) Q X = W (evE Γ a ⟨env, T, ro⟩) (fun x st1 => OW (fldD Γ.ncl st1 x f) (fun h => Q h st1)) X := by
  simp only [evE, W_bind, W_ofO]
theorem W_meth (p : Prg) (k : Nat) (a : E) (m : Str) (es : Es) (Q X) : W (evE (Gam p k) (.meth a m es) ⟨env, T, ro⟩) Q X = W (evE (Gam p k) a ⟨env, T, ro⟩) (fun x st1 => OW (methD p.ncl p.mth st1 x m) (fun pr => W (evEs (Gam p k) es st1) (fun ds st2 => WK (run p k pr.2 st2.ro (.box pr.1 :: ds) st2.S) (fun h S => Q h { st2 with S := S }) (fun c S => X c { st2 with S := S }) ⟨⟩) X)) X := by
  simp only [evE, W_bind]
  congr 1
  funext x st1
  show W (match methD p.ncl p.mth st1 x m with | some (n, g) => _ | none => _) Q X = _
  cases methD p.ncl p.mth st1 x m with
  | none => rfl
  | some pr =>
    obtain ⟨n, g⟩ := pr
    show W (Res.bind _ _) Q X = W _ _ _
    rw [W_bind]
    congr 1
    funext ds st2
    show W (match run p k g st2.ro (.box n :: ds) st2.S with | .ok h S => _ | .exc c S => _ | .stuck => _) Q X = _
    cases run p k g st2.ro (.box n :: ds) st2.S <;> rfl
/-- the new instance -/
def MkW (h : Hd) (P : Prop) : Prop := match h with
  | .val .non => P
  | _ => False
theorem MkW_n (P) : MkW (.val .non) P = P := rfl
theorem W_make (p : Prg) (k c g : Nat) (es : Es) (Q X) : W (evE (Gam p k) (.make c g es) ⟨env, T, ro⟩) Q X = W (evEs (Gam p k) es ⟨env, T, ro⟩) (fun ds st1 => st1.ro = false ∧ WK (run p k g st1.ro (.box st1.S.length :: ds) (st1.S ++ [.ins c []])) (fun h S => MkW h (Q (.val (.box st1.S.length)) { st1 with S := S })) (fun e S => X e { st1 with S := S }) ⟨⟩) X := by
  simp only [evE, W_bind]
  congr 1
  funext ds st1
  cases hr : st1.ro with
  | true => simp only [if_true, Bool.true_eq_false, false_and]; rfl
  | false =>
    simp only [Bool.false_eq_true, if_false, true_and]
    show W (match run p k g false (.box st1.S.length :: ds) (st1.S ++ [.ins c []]) with | .ok (.val .non) S => _ | .exc c S => _ | _ => _) Q X = _
    cases run p k g false (.box st1.S.length :: ds) (st1.S ++ [.ins c []]) with
    | ok h S =>
      match h with
      | .val .non => rfl
      | .val (.tup _) | .val (.int _) | .val (.bl _) | .val (.str _) | .val (.lst _) | .val (.slst _) | .val (.box _) | .new _ | .newd _ | .own _ | .fld _ _ => rfl
    | exc c S => rfl
    | stuck => rfl
theorem W_popl (a : E) (Q X) : W (evE Γ (.popl a) ⟨env, T, ro⟩) Q X = W (evE Γ a ⟨env, T, ro⟩) (fun x st1 => OW (poplD st1 x) (fun p => Q (.val p.1) p.2)) X := by
  simp only [evE, W_bind]
  congr 1
  funext x st1
  cases poplD st1 x <;> rfl
theorem W_setf (own : Bool) (a : E) (f : Str) (e : E) (Q X) : W (evS Γ (.setf own a f e) ⟨env, T, ro⟩) Q X = W (evE Γ e ⟨env, T, ro⟩) (fun x st1 => W (evE Γ a st1) (fun y st2 => OW (slOf own x) (fun sl => OW (setfD Γ.ncl st2 y f sl) (fun st3 => Q .nx st3))) X) X := by
  simp only [evS, W_bind]
  congr 1
  funext x st1
  congr 1
  funext y st2
  cases slOf own x with
  | none => rfl
  | some sl =>
    show W (match setfD Γ.ncl st2 y f sl with | some st3 => _ | none => _) Q X = OW (setfD Γ.ncl st2 y f sl) _
    cases setfD Γ.ncl st2 y f sl <;> rfl
theorem W_augx (a i : E) (o : BOp) (e : E) (Q X) : W (evS Γ (.augx a i o e) ⟨env, T, ro⟩) Q X = W (evE Γ a ⟨env, T, ro⟩) (fun x st1 => W (behind x (evE Γ i) st1) (fun y st2 => OW (augG st2 x y) (fun pr => W (behind x (evE Γ e) st2) (fun z st3 => OW (augS o pr.1 pr.2 x z st3) (fun st4 => Q .nx st4)) X)) X) X := by
  simp only [evS, W_bind]
  congr 1
  funext x st1
  congr 1
  funext y st2
  cases augG st2 x y with
  | none => rfl
  | some pr =>
    obtain ⟨u, j⟩ := pr
    show W (Res.bind _ _) Q X = W _ _ _
    rw [W_bind]
    congr 1
    funext z st3
    show W (match augS o u j x z st3 with | some st4 => _ | none => _) Q X = OW (augS o u j x z st3) _
    cases augS o u j x z st3 <;> rfl
theorem W_asgM (ts : List Tp) (e : E) (Q X) : W (evS Γ (.asgM ts e) ⟨env, T, ro⟩) Q X = W (evE Γ e ⟨env, T, ro⟩) (fun h st1 => (match h with
   | .val (.tup ds) => OW (tpSet Γ.ncl ts ds st1) (fun st2 => Q .nx st2)
   | _ => False)) X := by
  simp only [evS, W_bind]
  congr 1
  funext h st1
  match h with
  | .val (.tup ds) => 
    show W (match tpSet Γ.ncl ts ds st1 with | some st2 => Res.ok Fl.nx st2 | none => .stuck) Q X = OW (tpSet Γ.ncl ts ds st1) _
    cases tpSet Γ.ncl ts ds st1 <;> rfl
  | .val (.int _) | .val .non | .val (.bl _) | .val (.str _) | .val (.lst _) | .val (.slst _) | .val (.box _) | .new _ | .newd _ | .own _ | .fld _ _ => rfl
theorem W_enil (Q X) : W (evEs Γ .nil ⟨env, T, ro⟩) Q X = Q [] ⟨env, T, ro⟩ := rfl
theorem W_econs (e : E) (es : Es) (Q X) : W (evEs Γ (.cons e es) ⟨env, T, ro⟩) Q X = W (evE Γ e ⟨env, T, ro⟩) (fun h st1 => DW h (fun d => W (evEs Γ es st1) (fun ds st2 => Q (d :: ds) st2) X)) X := by
  simp only [evEs, W_bind, W_dt, W_ok]
def I1W (h : Hd) (P : Itv → Prop) : Prop := match h with
  | .val (.int j) => smallR 0 j = true ∧ P (.rng 0 j.toNat)
  | _ => False
def I2W (h g : Hd) (P : Itv → Prop) : Prop := match h, g with
  | .val (.int i), .val (.int j) => smallR i j = true ∧ P (.rng i (j - i).toNat)
  | _, _ => False
def I3W (st : Sta) (h : Hd) (P : Itv → Prop) : Prop := match h with
    | .val (.lst ds) => P (.seq (.val (.lst ds)))
    | .val (.slst ds) => P (.seq (.val (.slst ds)))
    | .val (.tup ds) => P (.seq (.val (.tup ds)))
    | .new ds => P (.seq (.val (.lst ds)))
    | h => OW (liveOf st h) (fun ds => P (.seqR ds))
theorem W_rng1 (a : E) (Q X) : W (evI Γ (.rng1 a) ⟨env, T, ro⟩) Q X = W (evE Γ a ⟨env, T, ro⟩) (fun h st1 => I1W h (fun v => Q v st1)) X := by
  simp only [evI, W_bind]
  congr 1
  funext h st1
  match h with
  | .val (.int j) => simp only [W_dite, W_ok]; rfl
  | .val .non | .val (.bl _) | .val (.str _) | .val (.tup _) | .val (.lst _) | .val (.slst _) | .val (.box _) | .new _ | .newd _ | .own _ | .fld _ _ => rfl
theorem W_rng2 (a b : E) (Q X) : W (evI Γ (.rng2 a b) ⟨env, T, ro⟩) Q X = W (evE Γ a ⟨env, T, ro⟩) (fun h st1 => W (evE Γ b st1) (fun g st2 => I2W h g (fun v => Q v st2)) X) X := by
  simp only [evI, W_bind]
  congr 1
  funext h st1
  congr 1
  funext g st2
  unfold I2W
  split
  · simp only [W_dite, W_ok]
  · first
      | rfl
      | (split
         · rename ∀ _ _, _ → _ → False => hne2
           exact (hne2 _ _ rfl rfl).elim
         · rfl)
theorem W_seq (a : E) (Q X) : W (evI Γ (.seq a) ⟨env, T, ro⟩) Q X = W (evE Γ a ⟨env, T, ro⟩) (fun h st1 => I3W st1 h (fun v => Q v st1)) X := by
  simp only [evI, W_bind]
  congr 1
  funext h st1
  unfold I3W
  match h with
  | .val (.lst _) | .val (.slst _) | .val (.tup _) | .new _ | .val (.int _) | .val .non | .val (.bl _) | .val (.str _) | .newd _ | .own _ => rfl
  | .val (.box n) =>
    show W (match liveOf st1 (.val (.box n)) with | some ds => _ | none => _) Q X = OW (liveOf st1 (.val (.box n))) _
    cases liveOf st1 (.val (.box n)) <;> rfl
  | .fld n f =>
    show W (match liveOf st1 (.fld n f) with | some ds => _ | none => _) Q X = OW (liveOf st1 (.fld n f)) _
    cases liveOf st1 (.fld n f) <;> rfl
def lstP (h : Hd) (P : List Dt → Prop) : Prop := match lstV h with
  | some ds => P ds
  | none => False
def lstQ (d e : Dt) (P : List Dt → List Dt → Prop) : Prop := match lstW d, lstW e with
  | some ds, some es => P ds es
  | _, _ => False
theorem lstP_l (ds P) : lstP (.val (.lst ds)) P = P ds := rfl
theorem lstP_s (ds P) : lstP (.val (.slst ds)) P = P ds := rfl
theorem lstP_n (ds P) : lstP (.new ds) P = P ds := rfl
theorem lstQ_l (ds es P) : lstQ (.lst ds) (.lst es) P = P ds es := rfl
def EnW (st : Sta) (h : Hd) (P : Itv → Prop) : Prop := match lstV h, liveOf st h with
  | some ds, _ => P (.enum ds)
  | none, some ds => P (.enumR ds)
  | none, none => False
theorem EnW_l (st ds P) : EnW st (.val (.lst ds)) P = P (.enum ds) := rfl
theorem EnW_s (st ds P) : EnW st (.val (.slst ds)) P = P (.enum ds) := rfl
theorem EnW_n (st ds P) : EnW st (.new ds) P = P (.enum ds) := rfl
theorem EnW_f (st n f P) : EnW st (.fld n f) P = OW (liveOf st (.fld n f)) (fun ds => P (.enumR ds)) := by
  show (match none, liveOf st (.fld n f) with | some ds, _ => P (.enum ds) | none, some ds => P (.enumR ds) | none, none => False) = _
  cases liveOf st (.fld n f) <;> rfl
theorem EnW_b (st n P) : EnW st (.val (.box n)) P = OW (liveOf st (.val (.box n))) (fun ds => P (.enumR ds)) := by
  show (match none, liveOf st (.val (.box n)) with | some ds, _ => P (.enum ds) | none, some ds => P (.enumR ds) | none, none => False) = _
  cases liveOf st (.val (.box n)) <;> rfl
theorem W_enum (a : E) (Q X) : W (evI Γ (.enum a) ⟨env, T, ro⟩) Q X = W (evE Γ a ⟨env, T, ro⟩) (fun h st1 => EnW st1 h (fun v => Q v st1)) X := by
  simp only [evI, W_bind]
  congr 1
  funext h st1
  unfold EnW
  cases lstV h with
  | some ds => rfl
  | none => cases liveOf st1 h <;> rfl
theorem W_zip (a b : E) (Q X) : W (evI Γ (.zip a b) ⟨env, T, ro⟩) Q X = W (evE Γ a ⟨env, T, ro⟩) (fun h st1 => DW h (fun d => W (evE Γ b st1) (fun g st2 => DW g (fun e => lstQ d e (fun ds es => Q (.zip ds es) st2))) X)) X := by
  simp only [evI, W_bind, W_dt]
  congr 1
  funext h st1
  congr 1
  funext d
  congr 1
  funext g st2
  congr 1
  funext e
  unfold lstQ
  cases lstW d with
  | none => rfl
  | some ds => cases lstW e <;> rfl
theorem W_istr (a : E) (Q X) : W (evI Γ (.str a) ⟨env, T, ro⟩) Q X = W (evE Γ a ⟨env, T, ro⟩) (fun h st1 => (match h with
    | .val (.str z) => Q (.str z) st1
    | _ => False)) X := by
  simp only [evI, W_bind]
  congr 1
  funext h st1
  match h with
  | .val (.str _) | .val (.lst _) | .val (.slst _) | .val (.tup _) | .new _ | .val (.int _) | .val .non | .val (.bl _) | .val (.box _) | .newd _ | .own _ | .fld _ _ => rfl
theorem W_idx (a b : E) (Q X) : W (evE Γ (.idx a b) ⟨env, T, ro⟩) Q X = W (evE Γ a ⟨env, T, ro⟩) (fun x st1 => isLst st1 x = true ∧ W (behind x (evE Γ b) st1) (fun y st2 => OW (idxD st2 x y) (fun h => Q h st2)) X) X := by
  simp only [evE, W_bind, W_dite, W_ofO]
def StW (h : Hd) (P : Str → Prop) : Prop := match h with
  | .val (.str z) => P z
  | _ => False
theorem StW_s (z P) : StW (.val (.str z)) P = P z := rfl
def ViW (h : Hd) (P : Int → Prop) : Prop := match h with
  | .val (.int z) => P z
  | _ => False
theorem ViW_i (z P) : ViW (.val (.int z)) P = P z := rfl
def VaW (h : Hd) (P : Dt → Prop) : Prop := match h with
  | .val z => P z
  | _ => False
theorem VaW_v (z P) : VaW (.val z) P = P z := rfl
theorem W_find (a b : E) (Q X) : W (evE Γ (.find a b) ⟨env, T, ro⟩) Q X = W (evE Γ a ⟨env, T, ro⟩) (fun x st1 => StW x (fun z => W (evE Γ b st1) (fun y st2 => OW (findD (.val (.str z)) y) (fun h => Q h st2)) X)) X := by
  simp only [evE, W_bind]
  congr 1
  funext x st1
  match x with
  | .val (.str z) =>
    show W (Res.bind _ _) Q X = StW (.val (.str z)) _
    simp only [W_bind, W_ofO, StW_s]
  | .val (.lst _) | .val (.slst _) | .val (.tup _) | .new _ | .val (.int _) | .val .non | .val (.bl _) | .val (.box _) | .newd _ | .own _ | .fld _ _ => rfl
theorem W_pop (i : Nat) (e : E) (Q X) : W (evE Γ (.pop i e) ⟨env, T, ro⟩) Q X = (match env[i]? with
    | some (.own _) => W (evE Γ e ⟨env, T, ro⟩) (fun y st1 => OW (popD st1 i y) (fun p => Q (.val p.1) p.2)) X
    | _ => False) := by
  simp only [evE]
  generalize env[i]? = o'
  match o' with
  | some (.own _) =>
    show W (Res.bind _ _) Q X = W _ _ _
    rw [W_bind]
    congr 1
    funext y st1
    cases popD st1 i y <;> rfl
  | none | some .none | some (.val _) | some (.ownd _) | some (.exn _) => rfl
theorem W_dnew (Q X) : W (evE Γ .dnew ⟨env, T, ro⟩) Q X = Q (.newd []) ⟨env, T, ro⟩ := rfl
theorem W_dix (a b : E) (Q X) : W (evE Γ (.dix a b) ⟨env, T, ro⟩) Q X = W (evE Γ a ⟨env, T, ro⟩) (fun x st1 => W (behind x (evE Γ b) st1) (fun y st2 => OW (dixD st2 x y) (fun h => Q h st2)) X) X := by
  simp only [evE, W_bind, W_ofO]
theorem W_din (g : Bool) (a b : E) (Q X) : W (evE Γ (.din g a b) ⟨env, T, ro⟩) Q X = W (evE Γ a ⟨env, T, ro⟩) (fun x st1 => VaW x (fun d => W (evE Γ b st1) (fun y st2 => OW (dinD g st2 d y) (fun h => Q h st2)) X)) X := by
  simp only [evE, W_bind]
  congr 1
  funext x st1
  match x with
  | .val z =>
    show W (Res.bind _ _) Q X = VaW (.val z) _
    simp only [W_bind, W_ofO, VaW_v]
  | .new _ | .newd _ | .own _ | .fld _ _ => rfl
theorem W_sset (a : E) (Q X) : W (evE Γ (.sset a) ⟨env, T, ro⟩) Q X = W (evE Γ a ⟨env, T, ro⟩) (fun x st1 => OW (ssetD st1 x) (fun h => Q h st1)) X := by
  simp only [evE, W_bind, W_ofO]
theorem W_lrg1 (a : E) (Q X) : W (evE Γ (.lrg1 a) ⟨env, T, ro⟩) Q X = W (evE Γ a ⟨env, T, ro⟩) (fun x st1 => ViW x (fun j => OW (lrgD 0 j) (fun h => Q h st1))) X := by
  simp only [evE, W_bind]
  congr 1
  funext x st1
  match x with
  | .val (.int z) =>
    show W (ofO _ _) Q X = ViW (.val (.int z)) _
    simp only [W_ofO, ViW_i]
  | .val (.lst _) | .val (.slst _) | .val (.tup _) | .new _ | .val (.str _) | .val .non | .val (.bl _) | .val (.box _) | .newd _ | .own _ | .fld _ _ => rfl
theorem W_lrg2 (a b : E) (Q X) : W (evE Γ (.lrg2 a b) ⟨env, T, ro⟩) Q X = W (evE Γ a ⟨env, T, ro⟩) (fun x st1 => W (evE Γ b st1) (fun y st2 => ViW x (fun i => ViW y (fun j => OW (lrgD i j) (fun h => Q h st2)))) X) X := by
  simp only [evE, W_bind]
  congr 1
  funext x st1
  congr 1
  funext y st2
  match x with
  | .val (.int z) =>
    match y with
    | .val (.int z') =>
      show W (ofO _ _) Q X = ViW (.val (.int z)) _
      simp only [W_ofO, ViW_i]
    | .val (.lst _) | .val (.slst _) | .val (.tup _) | .new _ | .val (.str _) | .val .non | .val (.bl _) | .val (.box _) | .newd _ | .own _ | .fld _ _ => rfl
  | .val (.lst _) | .val (.slst _) | .val (.tup _) | .new _ | .val (.str _) | .val .non | .val (.bl _) | .val (.box _) | .newd _ | .own _ | .fld _ _ => rfl
theorem W_dput (a i e : E) (Q X) : W (evS Γ (.dput a i e) ⟨env, T, ro⟩) Q X = W (evE Γ e ⟨env, T, ro⟩) (fun h st1 => DW h (fun d => W (evE Γ a st1) (fun x st2 => W (behind x (evE Γ i) st2) (fun y st3 => OW (dputS st3 x y d) (fun st4 => Q .nx st4)) X) X)) X := by
  simp only [evS, W_bind, W_dt]
  congr 1
  funext h st1
  congr 1
  funext d
  congr 1
  funext x st2
  congr 1
  funext y st3
  cases dputS st3 x y d <;> rfl
theorem W_asg (i : Nat) (e : E) (Q X) : W (evS Γ (.asg (.name i) false e) ⟨env, T, ro⟩) Q X = W (evE Γ e ⟨env, T, ro⟩) (fun h st1 => DW h (fun d => Q .nx (st1.setE i (.val d)))) X := by
  simp only [evS, W_bind, Bool.false_eq_true, if_false]
  congr 1
  funext h st1
  cases h <;> rfl
theorem W_asgO (i : Nat) (e : E) (Q X) : W (evS Γ (.asg (.name i) true e) ⟨env, T, ro⟩) Q X = W (evE Γ e ⟨env, T, ro⟩) (fun h st1 => (match h with
   | .new ds => i < st1.env.length ∧ Q .nx (st1.setE i (.own ds))
   | .newd kvs => i < st1.env.length ∧ Q .nx (st1.setE i (.ownd kvs))
   | _ => False)) X := by
  simp only [evS, W_bind, if_true]
  congr 1
  funext h st1
  cases h
  case new ds => simp only [W_dite, W_ok]
  case newd ds => simp only [W_dite, W_ok]
  all_goals rfl
theorem W_asgT (is : List Nat) (e : E) (Q X) : W (evS Γ (.asg (.tup is) false e) ⟨env, T, ro⟩) Q X = W (evE Γ e ⟨env, T, ro⟩) (fun h st1 => (match h with
   | .val (.tup ds) => OW (setTup is ds st1) (fun st2 => Q .nx st2)
   | _ => False)) X := by
  simp only [evS, W_bind, Bool.false_eq_true, if_false]
  congr 1
  funext h st1
  match h with
  | .val (.tup ds) => 
    show W (match setTup is ds st1 with | some st2 => Res.ok Fl.nx st2 | none => .stuck) Q X = OW (setTup is ds st1) _
    cases setTup is ds st1 <;> rfl
  | .val (.int _) | .val .non | .val (.bl _) | .val (.str _) | .val (.lst _) | .val (.slst _) | .val (.box _) | .new _ | .newd _ | .own _ | .fld _ _ => rfl
theorem W_aug (i : Nat) (o : BOp) (e : E) (Q X) : W (evS Γ (.aug i o e) ⟨env, T, ro⟩) Q X = (match env[i]? with
    | some (.val (.int a)) => W (evE Γ e ⟨env, T, ro⟩) (fun y st1 => (match y with
      | .val (.int b) => OW (augD o a b) (fun c => Q .nx (st1.setE i (.val (.int c))))
      | _ => False)) X
    | _ => False) := by
  simp only [evS]
  generalize env[i]? = o'
  match o' with
  | some (.val (.int a)) =>
    show W (Res.bind _ _) Q X = W _ _ _
    rw [W_bind]
    congr 1
    funext y st1
    match y with
    | .val (.int b) =>
      show W (match augD o a b with | some c => Res.ok Fl.nx (st1.setE i (.val (.int c))) | none => .stuck) Q X = OW (augD o a b) _
      cases augD o a b <;> rfl
    | .val (.tup _) | .val .non | .val (.bl _) | .val (.str _) | .val (.lst _) | .val (.slst _) | .val (.box _) | .new _ | .newd _ | .own _ | .fld _ _ => rfl
  | none | some .none | some (.own _) | some (.ownd _) | some (.exn _) => rfl
  | some (.val (.tup _)) | some (.val .non) | some (.val (.bl _)) | some (.val (.str _)) | some (.val (.lst _)) | some (.val (.slst _)) | some (.val (.box _)) => rfl
theorem W_setix (a i e : E) (Q X) : W (evS Γ (.setix a i e) ⟨env, T, ro⟩) Q X = W (evE Γ e ⟨env, T, ro⟩) (fun h st1 => DW h (fun d => W (evE Γ a st1) (fun x st2 => W (behind x (evE Γ i) st2) (fun y st3 => (match y with
    | .val (.int k) => OW (setD st3 x k d) (fun st4 => Q .nx st4)
    | _ => False)) X) X)) X := by
  simp only [evS, W_bind, W_dt]
  congr 1
  funext h st1
  congr 1
  funext d
  congr 1
  funext x st2
  congr 1
  funext y st3
  match y with
  | .val (.int k) => 
    show W (match setD st3 x k d with | some st2 => Res.ok Fl.nx st2 | none => .stuck) Q X = OW (setD st3 x k d) _
    cases setD st3 x k d <;> rfl
  | .val (.tup _) | .val .non | .val (.bl _) | .val (.str _) | .val (.lst _) | .val (.slst _) | .val (.box _) | .new _ | .newd _ | .own _ | .fld _ _ => rfl
theorem W_expr (e : E) (Q X) : W (evS Γ (.expr e) ⟨env, T, ro⟩) Q X = W (evE Γ e ⟨env, T, ro⟩) (fun _ st1 => Q .nx st1) X := by
  simp only [evS, W_bind, W_ok]
theorem W_ret (e : E) (Q X) : W (evS Γ (.ret e) ⟨env, T, ro⟩) Q X = W (evE Γ e ⟨env, T, ro⟩) (fun h st1 => RW h st1 Q) X := by
  simp only [evS, W_bind]
  congr 1
  funext h st1
  cases h with
  | own i =>
    show W (match st1.env[i]? with | some (.own ds) => Res.ok (Fl.rt (.new ds)) (st1.setE i .none) | _ => .stuck) Q X = (match st1.env[i]? with
    | some (.own ds) => Q (.rt (.new ds)) (st1.setE i .none)
    | _ => False)
    generalize st1.env[i]? = o
    match o with
    | some (.own _) => rfl
    | none | some .none | some (.val _) | some (.ownd _) | some (.exn _) => rfl
  | _ => rfl
theorem W_retN (Q X) : W (evS Γ .retN ⟨env, T, ro⟩) Q X = Q (.rt (.val .non)) ⟨env, T, ro⟩ := rfl
theorem W_pass (Q X) : W (evS Γ .pass ⟨env, T, ro⟩) Q X = Q .nx ⟨env, T, ro⟩ := rfl
theorem W_brk (Q X) : W (evS Γ .brk ⟨env, T, ro⟩) Q X = Q .bk ⟨env, T, ro⟩ := rfl
theorem W_cont (Q X) : W (evS Γ .cont ⟨env, T, ro⟩) Q X = Q .ct ⟨env, T, ro⟩ := rfl
theorem W_raise (c : Nat) (Q X) : W (evS Γ (.raise c) ⟨env, T, ro⟩) Q X = X c ⟨env, T, ro⟩ := rfl
theorem W_if (t : E) (a b : Ss) (Q X) : W (evS Γ (.iff t a b) ⟨env, T, ro⟩) Q X = W (evE Γ t ⟨env, T, ro⟩) (fun h st1 => TW h (fun k => IT k (W (evSs Γ a st1) Q X) (W (evSs Γ b st1) Q X))) X := by
  simp only [evS, W_bind, W_truth, W_ite]
theorem W_guard {α : Type} (v : Itv) (m : Sta → Res α) (Q X) : W (v.guard m ⟨env, T, ro⟩) Q X = (if v.isRo then W (m ⟨env, T, true⟩) (fun a st => Q a ⟨st.env, st.S, ro⟩) (fun c st => X c ⟨st.env, st.S, ro⟩) else W (m ⟨env, T, ro⟩) Q X) := by
  unfold Itv.guard
  by_cases h : v.isRo = true
  · rw [if_pos h, if_pos h]
    show W ((m ⟨env, T, true⟩).setro ro) Q X = _
    cases m ⟨env, T, true⟩ <;> rfl
  · rw [if_neg h, if_neg h]
def LG (Γ : Gm) (t : Tg) (body : Ss) (v : Itv) (st : Sta) (Q : Fl → Sta → Prop) (X : Nat → Sta → Prop) (tok : Tok Q) : Prop := W (v.guard (fun st0 => loopF v (bodyF Γ t body) (v.len st0) 0 st0) st) Q X
theorem W_for (t : Tg) (it : It) (body : Ss) (Q X) : W (evS Γ (.for_ t it body) ⟨env, T, ro⟩) Q X = W (evI Γ it ⟨env, T, ro⟩) (fun v st1 => LG Γ t body v st1 Q X ⟨⟩) X := by
  simp only [evS, W_bind]; rfl
theorem LG_n (t body v st Q X tok) (h : v.isRo = false) : LG Γ t body v st Q X tok = LW Γ t body v st Q X tok := by
  obtain ⟨e, S, b⟩ := st
  unfold LG
  rw [W_guard, h]
  rfl
theorem LG_rng (t body lo n st Q X tok) : LG Γ t body (.rng lo n) st Q X tok = LW Γ t body (.rng lo n) st Q X tok := rfl
theorem LG_seq (t body h st Q X tok) : LG Γ t body (.seq h) st Q X tok = LW Γ t body (.seq h) st Q X tok := rfl
theorem LG_enum (t body h st Q X tok) : LG Γ t body (.enum h) st Q X tok = LW Γ t body (.enum h) st Q X tok := rfl
theorem LG_zip (t body h g st Q X tok) : LG Γ t body (.zip h g) st Q X tok = LW Γ t body (.zip h g) st Q X tok := rfl
theorem LG_str (t body h st Q X tok) : LG Γ t body (.str h) st Q X tok = LW Γ t body (.str h) st Q X tok := rfl
theorem LG_seqR (t body ds Q X tok) : LG Γ t body (.seqR ds) ⟨env, T, ro⟩ Q X tok = LW Γ t body (.seqR ds) ⟨env, T, true⟩ (fun a st => Q a ⟨st.env, st.S, ro⟩) (fun c st => X c ⟨st.env, st.S, ro⟩) ⟨⟩ := W_guard ..
theorem LG_enumR (t body ds Q X tok) : LG Γ t body (.enumR ds) ⟨env, T, ro⟩ Q X tok = LW Γ t body (.enumR ds) ⟨env, T, true⟩ (fun a st => Q a ⟨st.env, st.S, ro⟩) (fun c st => X c ⟨st.env, st.S, ro⟩) ⟨⟩ := W_guard ..
theorem Gam_ncl (p : Prg) (k : Nat) : (Gam p k).ncl = p.ncl := rfl
theorem W_nil (Q X) : W (evSs Γ .nil ⟨env, T, ro⟩) Q X = Q .nx ⟨env, T, ro⟩ := rfl
theorem W_cons (s : S) (ss : Ss) (Q X) : W (evSs Γ (.cons s ss) ⟨env, T, ro⟩) Q X = W (evS Γ s ⟨env, T, ro⟩) (fun fl st1 => FW Γ ss fl st1 Q X) X := by
  simp only [evSs, W_bind]
  congr 1
  funext fl st1
  cases fl <;> rfl
theorem W_try (body : Ss) (c i : Nat) (suite : Ss) (Q X) : W (evS Γ (.try_ body c i suite) ⟨env, T, ro⟩) Q X = W (evSs Γ body ⟨env, T, ro⟩) Q (fun d st1 => d < Γ.nex ∧ IT (Γ.sub d c) (W (evSs Γ suite (st1.setE i (.exn d))) (fun fl st2 => (fl.vn && noExn (st2.setE i .none).env) = true ∧ Q fl (st2.setE i .none)) (fun _ _ => False)) (X d st1)) := by
  simp only [evS]
  cases evSs Γ body ⟨env, T, ro⟩ with
  | ok fl st => rfl
  | stuck => rfl
  | exc d st1 =>
    show W (if d < Γ.nex then _ else _) Q X = (d < Γ.nex ∧ _)
    rw [W_dite]
    congr 1
    rw [W_ite]
    congr 1
    rw [W_bind]
    cases evSs Γ suite (st1.setE i (.exn d)) with
    | ok fl st2 =>
      show W (if _ then _ else _) Q X = (_ ∧ _)
      rw [W_dite, W_ok]
    | exc _ _ => rfl
    | stuck => rfl
end
/-! loops -/
def stepQ (I : Sta → Prop) (Q : Fl → Sta → Prop) : Fl → Sta → Prop := fun fl s => match fl with
  | .nx => I s
  | .ct => I s
  | .bk => Q .nx s
  | .rt h => Q (.rt h) s
theorem stepQ_nx (I Q s) : stepQ I Q .nx s = I s := rfl
theorem stepQ_ct (I Q s) : stepQ I Q .ct s = I s := rfl
theorem stepQ_bk (I Q s) : stepQ I Q .bk s = Q .nx s := rfl
theorem stepQ_rt (I Q h s) : stepQ I Q (.rt h) s = Q (.rt h) s := rfl
theorem W_loop (v : Itv) (at' : Nat → Option Dt) (body : Dt → Sta → Res Fl) (n : Nat) (I : Nat → Sta → Prop) {Q : Fl → Sta → Prop} {X : Nat → Sta → Prop}
    (hat : ∀ k s, v.at s k = some (at' k)) (hn : ∀ k, k < n → ∃ d, at' k = some d) (he : at' n = none)
    (hs : ∀ k s d, k < n → at' k = some d → I k s → W (body d s) (stepQ (I (k + 1)) Q) X) (hq : ∀ s, I n s → Q .nx s) :
    ∀ (m k : Nat) (s : Sta), k + m = n → I k s → W (loopF v body m k s) Q X := by
  intro m
  induction m with
  | zero =>
    intro k s hk hi
    have hk : k = n := by omega
    subst hk
    unfold loopF
    rw [hat, he]
    exact hq s hi
  | succ m ih =>
    intro k s hk hi
    obtain ⟨d, hd⟩ := hn k (by omega)
    unfold loopF
    rw [hat, hd]
    show W (Res.bind _ _) Q X
    rw [W_bind]
    refine W_mono (hs k s d (by omega) hd hi) ?_ (fun _ _ h => h)
    intro fl s' h
    cases fl with
    | nx => exact ih (k + 1) s' (by omega) h
    | ct => exact ih (k + 1) s' (by omega) h
    | bk => exact h
    | rt h' => exact h
theorem W_loop_rng {Γ : Gm} {i : Nat} {body : Ss} {lo : Int} {n : Nat} (I : Nat → Sta → Prop) {st : Sta} {Q : Fl → Sta → Prop} {X : Nat → Sta → Prop}
    (h0 : I 0 st) (hs : ∀ k s, k < n → I k s → W (evSs Γ body (s.setE i (.val (.int (lo + k))))) (stepQ (I (k + 1)) Q) X) (hq : ∀ s, I n s → Q .nx s) :
    LW Γ (.name i) body (.rng lo n) st Q X ⟨⟩ := by
  show W (loopF (.rng lo n) (bodyF Γ (.name i) body) ((Itv.rng lo n).len st) 0 st) Q X
  refine W_loop (.rng lo n) (fun k => if k < n then some (.int (lo + k)) else none) _ n I (fun _ _ => rfl) (fun k h => ⟨_, by simp only [h, if_true]; rfl⟩) (by simp) ?_ hq n 0 st (by omega) h0
  intro k s d hk hd hi
  simp only [hk, if_true, Option.some.injEq] at hd
  subst hd
  exact hs k s hk hi
/-- a loop over known things, any target -/
theorem W_loop_any {Γ : Gm} {t : Tg} {body : Ss} {v : Itv} (at' : Nat → Option Dt) (n : Nat) (hat : ∀ k s, v.at s k = some (at' k)) (hl : ∀ s, v.len s = n) (hn : ∀ k, k < n → ∃ d, at' k = some d) (he : at' n = none) (I : Nat → Sta → Prop) {st : Sta} {Q : Fl → Sta → Prop} {X : Nat → Sta → Prop}
    (h0 : I 0 st) (hs : ∀ k s d, k < n → at' k = some d → I k s → W (bodyF Γ t body d s) (stepQ (I (k + 1)) Q) X) (hq : ∀ s, I n s → Q .nx s) :
    LW Γ t body v st Q X ⟨⟩ := by
  show W (loopF v (bodyF Γ t body) (v.len st) 0 st) Q X
  rw [hl]
  exact W_loop v at' _ n I hat hn he hs hq n 0 st (by omega) h0
theorem W_body2 {Γ : Gm} {i j : Nat} {body : Ss} (x y : Dt) (s : Sta) : bodyF Γ (.tup [i, j]) body (.tup [x, y]) s = evSs Γ body ((s.setE i (.val x)).setE j (.val y)) := rfl
/-- for i, x in enumerate(xs) -/
theorem W_loop_enum {Γ : Gm} {i j : Nat} {body : Ss} {ds : List Dt} (I : Nat → Sta → Prop) {st : Sta} {Q : Fl → Sta → Prop} {X : Nat → Sta → Prop}
    (h0 : I 0 st) (hs : ∀ k s d, ds[k]? = some d → I k s → W (evSs Γ body ((s.setE i (.val (.int k))).setE j (.val d))) (stepQ (I (k + 1)) Q) X) (hq : ∀ s, I ds.length s → Q .nx s) :
    LW Γ (.tup [i, j]) body (.enum ds) st Q X ⟨⟩ := by
  refine W_loop_any (fun k => ds[k]?.map fun d => .tup [.int k, d]) ds.length (fun _ _ => rfl) (fun _ => rfl) (fun k h => ⟨_, by rw [List.getElem?_eq_getElem h]; rfl⟩) (by simp) I h0 ?_ hq
  intro k s d hk hd hi
  rw [List.getElem?_eq_getElem hk] at hd
  cases hd
  rw [W_body2]
  exact hs k s _ (List.getElem?_eq_getElem hk) hi
theorem W_loop_lstR {Γ : Gm} {i : Nat} {body : Ss} {ds : List Dt} (I : Nat → Sta → Prop) {st : Sta} {Q : Fl → Sta → Prop} {X : Nat → Sta → Prop}
    (h0 : I 0 st) (hs : ∀ k s d, ds[k]? = some d → I k s → W (evSs Γ body (s.setE i (.val d))) (stepQ (I (k + 1)) Q) X) (hq : ∀ s, I ds.length s → Q .nx s) :
    LW Γ (.name i) body (.seqR ds) st Q X ⟨⟩ := by
  refine W_loop_any (fun k => ds[k]?) ds.length (fun _ _ => rfl) (fun _ => rfl) (fun k h => ⟨_, List.getElem?_eq_getElem h⟩) (by simp) I h0 ?_ hq
  intro k s d hk hd hi
  exact hs k s d hd hi
theorem W_loop_enumR {Γ : Gm} {i j : Nat} {body : Ss} {ds : List Dt} (I : Nat → Sta → Prop) {st : Sta} {Q : Fl → Sta → Prop} {X : Nat → Sta → Prop}
    (h0 : I 0 st) (hs : ∀ k s d, ds[k]? = some d → I k s → W (evSs Γ body ((s.setE i (.val (.int k))).setE j (.val d))) (stepQ (I (k + 1)) Q) X) (hq : ∀ s, I ds.length s → Q .nx s) :
    LW Γ (.tup [i, j]) body (.enumR ds) st Q X ⟨⟩ := by
  refine W_loop_any (fun k => ds[k]?.map fun d => .tup [.int k, d]) ds.length (fun _ _ => rfl) (fun _ => rfl) (fun k h => ⟨_, by rw [List.getElem?_eq_getElem h]; rfl⟩) (by simp) I h0 ?_ hq
  intro k s d hk hd hi
  rw [List.getElem?_eq_getElem hk] at hd
  cases hd
  rw [W_body2]
  exact hs k s _ (List.getElem?_eq_getElem hk) hi
theorem W_loop_lst {Γ : Gm} {i : Nat} {body : Ss} {ds : List Dt} (h : Hd) (hh : ∀ s, ∃ b, seqOf s h = some (b, ds)) (I : Nat → Sta → Prop) {st : Sta} {Q : Fl → Sta → Prop} {X : Nat → Sta → Prop}
    (h0 : I 0 st) (hs : ∀ k s d, ds[k]? = some d → I k s → W (evSs Γ body (s.setE i (.val d))) (stepQ (I (k + 1)) Q) X) (hq : ∀ s, I ds.length s → Q .nx s) :
    LW Γ (.name i) body (.seq h) st Q X ⟨⟩ := by
  show W (loopF (.seq h) (bodyF Γ (.name i) body) ((Itv.seq h).len st) 0 st) Q X
  have hl : (Itv.seq h).len st = ds.length := by
    obtain ⟨b, hb⟩ := hh st
    show (match seqOf st h with | some p => p.2.length | none => 0) = _
    rw [hb]
  rw [hl]
  refine W_loop (.seq h) (fun k => ds[k]?) _ ds.length I ?_ (fun k h => ⟨_, List.getElem?_eq_getElem h⟩) (by simp) ?_ hq ds.length 0 st (by omega) h0
  · intro k s
    obtain ⟨b, hb⟩ := hh s
    show (seqOf s h).map _ = _
    rw [hb]; rfl
  · intro k s d hk hd hi
    exact hs k s d hd hi
end EV
namespace EV
open PySem PySem.Spec PyProof.Rows L2

def BW (o : Option Ob) (P : List Dt → Prop) : Prop := match o with
  | some (.lst ds) => P ds
  | _ => False
def OnW (o : Option Sl) (P : List Dt → Prop) : Prop := match o with
  | some (.own ds) => P ds
  | _ => False
def OnB (o : Option Sl) : Bool := match o with
  | some (.own ds) => true
  | _ => false
theorem BW_s (ds P) : BW (some (.lst ds)) P = P ds := rfl
def OdW (o : Option Sl) (P : List (Dt × Dt) → Prop) : Prop := match o with
  | some (.ownd ds) => P ds
  | _ => False
theorem OdW_s (ds P) : OdW (some (.ownd ds)) P = P ds := rfl
def LnW (o : Option Sl) (P : Int → Prop) (t : Tok P) : Prop := match o with
  | some (.own ds) => P ds.length
  | some (.ownd ds) => P ds.length
  | _ => False
theorem LnW_o (ds P t) : LnW (some (.own ds)) P t = P (ds.length : Nat) := rfl
theorem LnW_d (ds P t) : LnW (some (.ownd ds)) P t = P (ds.length : Nat) := rfl
theorem OnW_s (ds P) : OnW (some (.own ds)) P = P ds := rfl
theorem OnB_s (ds) : OnB (some (.own ds)) = true := rfl
section
variable (env : List Sl) (T : List Ob) (ro : Bool) (st : Sta) (P : Hd → Prop) (i j : Int) (a b : Bool) (ds es : List Dt)
theorem sE (k : Nat) (v : Sl) : Sta.setE ⟨env, T, ro⟩ k v = ⟨env.set k v, T, ro⟩ := rfl
theorem eg0 {α : Type} (x : α) (l : List α) : (x :: l)[0]? = some x := rfl
theorem egS {α : Type} (x : α) (l : List α) (n : Nat) : (x :: l)[n + 1]? = l[n]? := by simp
theorem st0 {α : Type} (x y : α) (l : List α) : (x :: l).set 0 y = y :: l := rfl
theorem stS {α : Type} (x y : α) (l : List α) (n : Nat) : (x :: l).set (n + 1) y = x :: l.set n y := rfl
theorem D_add : OW (binD .add st (.val (.int i)) (.val (.int j))) P = P (.val (.int (i + j))) := rfl
theorem D_sub : OW (binD .sub st (.val (.int i)) (.val (.int j))) P = P (.val (.int (i - j))) := rfl
theorem OW_ite {α : Type} (p : Prop) [Decidable p] (x : α) (P : α → Prop) : OW (if p then some x else none) P = (p ∧ P x) := by
  by_cases h : p
  · simp only [h, if_true, true_and]; rfl
  · simp only [h, if_false, false_and]; rfl
theorem D_mul : OW (binD .mul st (.val (.int i)) (.val (.int j))) P = (mulOk i j = true ∧ P (.val (.int (i * j)))) := OW_ite _ _ _
theorem D_fdiv : OW (binD .fdiv st (.val (.int i)) (.val (.int j))) P = ((j ≠ 0 ∧ j.natAbs < 115792089237316195423570985008687907853269984665640564039457584007913129639936) ∧ P (.val (.int (i.fdiv j)))) := OW_ite _ _ _
theorem D_mod : OW (binD .mod st (.val (.int i)) (.val (.int j))) P = (j ≠ 0 ∧ P (.val (.int (i.fmod j)))) := OW_ite _ _ _
theorem D_band : OW (binD .band st (.val (.int i)) (.val (.int j))) P = P (.val (.int (Builtin.bitAnd i j))) := rfl
theorem D_bor : OW (binD .bor st (.val (.int i)) (.val (.int j))) P = P (.val (.int (Builtin.bitOr i j))) := rfl
theorem D_bxor : OW (binD .bxor st (.val (.int i)) (.val (.int j))) P = P (.val (.int (Builtin.bitXor i j))) := rfl
theorem D_shl : OW (binD .shl st (.val (.int i)) (.val (.int j))) P = ((0 ≤ j ∧ j ≤ 1000000 ∧ i.natAbs < 2 ^ 64) ∧ P (.val (.int (i * 2 ^ j.toNat)))) := OW_ite _ _ _
theorem D_shr : OW (binD .shr st (.val (.int i)) (.val (.int j))) P = (0 ≤ j ∧ P (.val (.int (i / 2 ^ j.toNat)))) := OW_ite _ _ _
theorem D_lt : OW (cmpD .lt st (.val (.int i)) (.val (.int j))) P = P (.val (.bl (decide (i < j)))) := rfl
theorem D_le : OW (cmpD .le st (.val (.int i)) (.val (.int j))) P = P (.val (.bl (decide (i ≤ j)))) := rfl
theorem D_gt : OW (cmpD .gt st (.val (.int i)) (.val (.int j))) P = P (.val (.bl (decide (j < i)))) := rfl
theorem D_ge : OW (cmpD .ge st (.val (.int i)) (.val (.int j))) P = P (.val (.bl (decide (j ≤ i)))) := rfl
theorem D_eqi : OW (cmpD .eq st (.val (.int i)) (.val (.int j))) P = P (.val (.bl (decide (i = j)))) := rfl
theorem D_nei : OW (cmpD .ne st (.val (.int i)) (.val (.int j))) P = P (.val (.bl (!decide (i = j)))) := rfl
theorem D_eqb : OW (cmpD .eq st (.val (.bl a)) (.val (.bl b))) P = P (.val (.bl (decide (a = b)))) := rfl
theorem D_neb : OW (cmpD .ne st (.val (.bl a)) (.val (.bl b))) P = P (.val (.bl (!decide (a = b)))) := rfl
theorem D_isN : OW (cmpD .is st (.val .non) (.val .non)) P = P (.val (.bl true)) := rfl
theorem D_inN : OW (cmpD .isnot st (.val .non) (.val .non)) P = P (.val (.bl false)) := rfl
theorem D_isi1 : OW (cmpD .is st (.val (.int i)) (.val .non)) P = P (.val (.bl false)) := rfl
theorem D_ini1 : OW (cmpD .isnot st (.val (.int i)) (.val .non)) P = P (.val (.bl true)) := rfl
theorem D_ist1 : OW (cmpD .is st (.val (.tup ds)) (.val .non)) P = P (.val (.bl false)) := rfl
theorem D_int1 : OW (cmpD .isnot st (.val (.tup ds)) (.val .non)) P = P (.val (.bl true)) := rfl
theorem D_isl1 : OW (cmpD .is st (.val (.lst ds)) (.val .non)) P = P (.val (.bl false)) := rfl
theorem D_inl1 : OW (cmpD .isnot st (.val (.lst ds)) (.val .non)) P = P (.val (.bl true)) := rfl
theorem D_isn1 : OW (cmpD .is st (.new ds) (.val .non)) P = P (.val (.bl false)) := rfl
theorem D_inn1 : OW (cmpD .isnot st (.new ds) (.val .non)) P = P (.val (.bl true)) := rfl
theorem D_isb1 : OW (cmpD .is st (.val (.bl a)) (.val .non)) P = P (.val (.bl false)) := rfl
theorem D_inb1 : OW (cmpD .isnot st (.val (.bl a)) (.val .non)) P = P (.val (.bl true)) := rfl
theorem D_neg : OW (unD .neg (.val (.int i))) P = P (.val (.int (-i))) := rfl
theorem D_abs : OW (bltD .abs st (.val (.int i))) P = P (.val (.int (if i < 0 then -i else i))) := rfl
theorem D_int : OW (bltD .int st (.val (.int i))) P = P (.val (.int i)) := rfl
theorem D_intb : OW (bltD .int st (.val (.bl a))) P = P (.val (.int (if a then 1 else 0))) := rfl
theorem D_lenT : OW (bltD .len st (.val (.tup ds))) P = P (.val (.int ds.length)) := rfl
theorem D_lenL : OW (bltD .len st (.val (.lst ds))) P = P (.val (.int ds.length)) := rfl
theorem D_lenS : OW (bltD .len st (.val (.slst ds))) P = P (.val (.int ds.length)) := rfl
theorem D_lenN : OW (bltD .len st (.new ds)) P = P (.val (.int ds.length)) := rfl
theorem D_lenB (n : Nat) : OW (bltD .len ⟨env, T, ro⟩ (.val (.box n))) P = BW T[n]? (fun ds => P (.val (.int ds.length))) := by
  show OW (lenD ⟨env, T, ro⟩ _) P = _
  simp only [lenD, seqOf]
  generalize T[n]? = o
  match o with
  | none | some (.lst _) | some (.dct _) | some (.ins _ _) | some .dead => rfl
theorem D_lenO (n : Nat) : OW (bltD .len ⟨env, T, ro⟩ (.own n)) P = LnW env[n]? (fun k => P (.val (.int k))) ⟨⟩ := by
  show OW (match (match env[n]? with
      | some (.own ds) => some (true, ds)
      | _ => none) with
      | some (_, ds) => some (Hd.val (.int (ds : List Dt).length))
      | none => Option.map (fun kvs => Hd.val (.int (kvs : List (Dt × Dt)).length)) (match env[n]? with
        | some (.ownd kvs) => some kvs
        | _ => none)) P = _
  generalize env[n]? = o
  match o with
  | some (.own ds) => rfl
  | some (.ownd ds) => rfl
  | none | some .none | some (.val _) | some (.exn _) => rfl
theorem D_max : OW (blt2D .max (.val (.int i)) (.val (.int j))) P = P (.val (.int (if j > i then j else i))) := rfl
theorem D_min : OW (blt2D .min (.val (.int i)) (.val (.int j))) P = P (.val (.int (if j < i then j else i))) := rfl
theorem OW_mv {α : Type} (o : Option α) (f : α → Hd) : OW (o.map f) P = OW o (fun d => P (f d)) := by cases o <;> rfl
theorem D_ixT : OW (ixD st (.val (.tup ds)) (.val (.int i))) P = OW (atI ds i) (fun d => P (.val d)) := OW_mv _ _ _
theorem D_ixL : OW (ixD st (.val (.lst ds)) (.val (.int i))) P = OW (atI ds i) (fun d => P (.val d)) := OW_mv _ _ _
theorem D_ixS : OW (ixD st (.val (.slst ds)) (.val (.int i))) P = OW (atI ds i) (fun d => P (.val d)) := OW_mv _ _ _
theorem D_ixN : OW (ixD st (.new ds) (.val (.int i))) P = OW (atI ds i) (fun d => P (.val d)) := OW_mv _ _ _
theorem D_ixB (n : Nat) : OW (ixD ⟨env, T, ro⟩ (.val (.box n)) (.val (.int i))) P = BW T[n]? (fun ds => OW (atI ds i) (fun d => P (.val d))) := by
  simp only [ixD, seqOf]
  generalize T[n]? = o
  match o with
  | some (.lst ds) => exact OW_mv _ _ _
  | none | some (.dct _) | some (.ins _ _) | some .dead => rfl
theorem D_ixO (n : Nat) : OW (ixD ⟨env, T, ro⟩ (.own n) (.val (.int i))) P = OnW env[n]? (fun ds => OW (atI ds i) (fun d => P (.val d))) := by
  simp only [ixD, seqOf]
  generalize env[n]? = o
  match o with
  | some (.own ds) => exact OW_mv _ _ _
  | none | some (.val _) | some .none | some (.ownd _) | some (.exn _) => rfl
theorem D_setB (P : Sta → Prop) (n : Nat) (d : Dt) : OW (setD ⟨env, T, false⟩ (.val (.box n)) i d) P = BW T[n]? (fun ds => OW (ixN ds.length i) (fun j => P ⟨env, T.set n (.lst (ds.set j d)), false⟩)) := by
  simp only [setD]
  generalize T[n]? = o
  match o with
  | some (.lst ds) => 
    show OW ((ixN ds.length i).map _) P = OW (ixN ds.length i) _
    cases ixN ds.length i <;> rfl
  | none | some (.dct _) | some (.ins _ _) | some .dead => rfl
theorem D_setO (P : Sta → Prop) (n : Nat) (d : Dt) : OW (setD ⟨env, T, ro⟩ (.own n) i d) P = OnW env[n]? (fun ds => OW (ixN ds.length i) (fun j => P ⟨env.set n (.own (ds.set j d)), T, ro⟩)) := by
  simp only [setD]
  generalize env[n]? = o
  match o with
  | some (.own ds) => 
    show OW ((ixN ds.length i).map _) P = OW (ixN ds.length i) _
    cases ixN ds.length i <;> rfl
  | none | some (.val _) | some .none | some (.ownd _) | some (.exn _) => rfl
theorem D_pop (P : Dt × Sta → Prop) (n : Nat) (k : Int) : OW (popD ⟨env, T, ro⟩ n (.val (.int k))) P = OnW env[n]? (fun ds => (-(2 ^ 63) ≤ k ∧ k < 2 ^ 63) ∧ OW (ixN ds.length k) (fun j => OW ds[j]? (fun d => P (d, ⟨env.set n (.own (ds.eraseIdx j)), T, ro⟩)))) := by
  unfold popD
  generalize env[n]? = o
  match o with
  | some (.own ds) =>
    show OW (if -(2 ^ 63) ≤ k ∧ k < 2 ^ 63 then _ else none) P = ((-(2 ^ 63) ≤ k ∧ k < 2 ^ 63) ∧ _)
    by_cases h : -(2 ^ 63) ≤ k ∧ k < 2 ^ 63
    · rw [if_pos h, eq_true h, true_and]
      cases ixN ds.length k with
      | none => rfl
      | some j =>
        show OW (Option.map _ ds[j]?) P = OW ds[j]? _
        cases ds[j]? <;> rfl
    · rw [if_neg h, eq_false h, false_and]; rfl
  | none | some .none | some (.val _) | some (.ownd _) | some (.exn _) => rfl
theorem D_dixI (P : Hd → Prop) (n : Nat) (k : Int) : OW (dixD ⟨env, T, ro⟩ (.own n) (.val (.int k))) P = OdW env[n]? (fun kvs => OW (dgetD kvs (.int k)) (fun d => P (.val d))) := by
  unfold dixD kvsOf
  show OW (match Hd.val (.int k), (match env[n]? with
    | some (.ownd kvs) => some kvs
    | _ => none) with | .val d, some kvs => if (keyD d).isSome = true then (dgetD kvs d).map .val else none | _, _ => none) P = _
  generalize env[n]? = o
  match o with
  | some (.ownd ds) => show OW (Option.map _ (dgetD ds _)) P = OW (dgetD ds _) _; cases dgetD ds (.int k) <;> rfl
  | none | some .none | some (.val _) | some (.own _) | some (.exn _) => rfl
theorem D_dixS (P : Hd → Prop) (n : Nat) (k : Str) : OW (dixD ⟨env, T, ro⟩ (.own n) (.val (.str k))) P = OdW env[n]? (fun kvs => OW (dgetD kvs (.str k)) (fun d => P (.val d))) := by
  unfold dixD kvsOf
  show OW (match Hd.val (.str k), (match env[n]? with
    | some (.ownd kvs) => some kvs
    | _ => none) with | .val d, some kvs => if (keyD d).isSome = true then (dgetD kvs d).map .val else none | _, _ => none) P = _
  generalize env[n]? = o
  match o with
  | some (.ownd ds) => show OW (Option.map _ (dgetD ds _)) P = OW (dgetD ds _) _; cases dgetD ds (.str k) <;> rfl
  | none | some .none | some (.val _) | some (.own _) | some (.exn _) => rfl
theorem D_dinI (P : Hd → Prop) (g : Bool) (n : Nat) (k : Int) : OW (dinD g ⟨env, T, ro⟩ (.int k) (.own n)) P = OdW env[n]? (fun kvs => P (.val (.bl (if g then (dgetD kvs (.int k)).isSome else !(dgetD kvs (.int k)).isSome)))) := by
  unfold dinD kvsOf
  show OW (match (match env[n]? with
    | some (.ownd kvs) => some kvs
    | _ => none) with | some kvs => _ | none => none) P = _
  generalize env[n]? = o
  match o with
  | some (.ownd ds) => rfl
  | none | some .none | some (.val _) | some (.own _) | some (.exn _) => rfl
theorem D_dinS (P : Hd → Prop) (g : Bool) (n : Nat) (k : Str) : OW (dinD g ⟨env, T, ro⟩ (.str k) (.own n)) P = OdW env[n]? (fun kvs => P (.val (.bl (if g then (dgetD kvs (.str k)).isSome else !(dgetD kvs (.str k)).isSome)))) := by
  unfold dinD kvsOf
  show OW (match (match env[n]? with
    | some (.ownd kvs) => some kvs
    | _ => none) with | some kvs => _ | none => none) P = _
  generalize env[n]? = o
  match o with
  | some (.ownd ds) => rfl
  | none | some .none | some (.val _) | some (.own _) | some (.exn _) => rfl
theorem D_dputI (P : Sta → Prop) (n : Nat) (k : Int) (d : Dt) : OW (dputS ⟨env, T, ro⟩ (.own n) (.val (.int k)) d) P = OdW env[n]? (fun kvs => kvs.length < sizeLine ∧ P ⟨env.set n (.ownd (dputD kvs (.int k) d)), T, ro⟩) := by
  unfold dputS
  show OW (match env[n]? with | some (.ownd kvs) => _ | _ => none) P = _
  generalize env[n]? = o
  match o with
  | some (.ownd ds) =>
    show OW (if (keyD (.int k)).isSome = true ∧ ds.length < sizeLine then _ else none) P = (ds.length < sizeLine ∧ _)
    by_cases h : ds.length < sizeLine
    · rw [if_pos ⟨rfl, h⟩, eq_true h, true_and]; rfl
    · rw [if_neg (fun z => h z.2), eq_false h, false_and]; rfl
  | none | some .none | some (.val _) | some (.own _) | some (.exn _) => rfl
theorem D_dputS (P : Sta → Prop) (n : Nat) (k : Str) (d : Dt) : OW (dputS ⟨env, T, ro⟩ (.own n) (.val (.str k)) d) P = OdW env[n]? (fun kvs => kvs.length < sizeLine ∧ P ⟨env.set n (.ownd (dputD kvs (.str k) d)), T, ro⟩) := by
  unfold dputS
  show OW (match env[n]? with | some (.ownd kvs) => _ | _ => none) P = _
  generalize env[n]? = o
  match o with
  | some (.ownd ds) =>
    show OW (if (keyD (.str k)).isSome = true ∧ ds.length < sizeLine then _ else none) P = (ds.length < sizeLine ∧ _)
    by_cases h : ds.length < sizeLine
    · rw [if_pos ⟨rfl, h⟩, eq_true h, true_and]; rfl
    · rw [if_neg (fun z => h z.2), eq_false h, false_and]; rfl
  | none | some .none | some (.val _) | some (.own _) | some (.exn _) => rfl
theorem D_find (z w : Str) (P : Hd → Prop) : OW (findD (.val (.str z)) (.val (.str w))) P = P (.val (.int (Txt.find z w))) := rfl
theorem D_lrg {i j : Int} (P : Hd → Prop) (h1 : -4000 ≤ i) (h2 : i ≤ 4000000) (h3 : -4000 ≤ j) (h4 : j ≤ 4000000) : OW (lrgD i j) P = P (.new (rngL i j)) := by
  have a : smallR i j = true := by
    unfold smallR
    simp only [Bool.and_eq_true, decide_eq_true_eq]
    omega
  unfold lrgD
  rw [if_pos ⟨a, by omega⟩]
  rfl
theorem D_appO (P : Sta → Prop) (n : Nat) (d : Dt) : OW (appD ⟨env, T, ro⟩ (.own n) d) P = OnW env[n]? (fun ds => ds.length < sizeLine ∧ P ⟨env.set n (.own (ds ++ [d])), T, ro⟩) := by
  simp only [appD]
  generalize env[n]? = o
  match o with
  | some (.own ds) => exact OW_ite _ _ _
  | none | some (.val _) | some .none | some (.ownd _) | some (.exn _) => rfl
theorem D_lof (n : Nat) : (lstOf ⟨env, T, ro⟩ (.own n)).isSome = OnB env[n]? := by
  simp only [lstOf, seqOf]
  generalize env[n]? = o
  match o with
  | none | some (.val _) | some (.own _) | some .none | some (.ownd _) | some (.exn _) => rfl
theorem D_catNN : OW (binD .add st (.new ds) (.new es)) P = (ds.length + es.length ≤ sizeLine ∧ P (.new (ds ++ es))) := OW_ite _ _ _
theorem D_catNL : OW (binD .add st (.new ds) (.val (.lst es))) P = (ds.length + es.length ≤ sizeLine ∧ P (.new (ds ++ es))) := OW_ite _ _ _
theorem D_catLN : OW (binD .add st (.val (.lst ds)) (.new es)) P = (ds.length + es.length ≤ sizeLine ∧ P (.new (ds ++ es))) := OW_ite _ _ _
theorem D_catLL : OW (binD .add st (.val (.lst ds)) (.val (.lst es))) P = (ds.length + es.length ≤ sizeLine ∧ P (.new (ds ++ es))) := OW_ite _ _ _
theorem D_ii : OW (isiD .int st (.val (.int i))) P = P (.val (.bl true)) := rfl
theorem D_ib : OW (isiD .bool st (.val (.int i))) P = P (.val (.bl false)) := rfl
theorem D_bi : OW (isiD .int st (.val (.bl a))) P = P (.val (.bl true)) := rfl
theorem D_bb : OW (isiD .bool st (.val (.bl a))) P = P (.val (.bl true)) := rfl
theorem D_list (x : Hd) : OW (bltD .list st x) P = OW (seqOf st x) (fun p => P (.new p.2)) := by
  show OW (listD st x) P = _
  unfold listD
  cases seqOf st x with
  | none => rfl
  | some p => rfl
theorem D_tuple (x : Hd) : OW (bltD .tuple st x) P = OW (seqOf st x) (fun p => P (.val (.tup p.2))) := by
  show OW (tupleD st x) P = _
  unfold tupleD
  cases seqOf st x with
  | none => rfl
  | some p => rfl
theorem OW_map {α β : Type} (o : Option α) (f : α → β) (P : β → Prop) : OW (o.map f) P = OW o (fun d => P (f d)) := by cases o <;> rfl
theorem D_sum (x : Hd) : OW (bltD .sum st x) P = OW (intsA st x) (fun ns => P (.val (.int ns.sum))) := OW_map _ _ _
theorem D_sorted (x : Hd) : OW (bltD .sorted st x) P = OW (intsH st x) (fun ns => P (.new ((sortI ns).map .int))) := OW_map _ _ _
theorem D_sset (x : Hd) : OW (ssetD st x) P = OW (intsH st x) (fun ns => ns.length < 64 ∧ P (.new ((sortU ns).map .int))) := by
  unfold ssetD
  cases intsH st x with
  | none => rfl
  | some ns => exact OW_ite _ _ _
theorem D_maxl (x : Hd) : OW (bltD .maxl st x) P = OW (intsA st x) (fun ns => ns ≠ [] ∧ P (.val (.int (maxI (ns.headD 0) ns.tail)))) := by
  show OW (maxlD st x) P = _
  unfold maxlD
  cases intsA st x with
  | none => rfl
  | some ns =>
    cases ns with
    | nil => simp [OW]
    | cons n ns => simp [OW]
theorem D_minl (x : Hd) : OW (bltD .minl st x) P = OW (intsA st x) (fun ns => ns ≠ [] ∧ P (.val (.int (minI (ns.headD 0) ns.tail)))) := by
  show OW (minlD st x) P = _
  unfold minlD
  cases intsA st x with
  | none => rfl
  | some ns =>
    cases ns with
    | nil => simp [OW]
    | cons n ns => simp [OW]
theorem D_str : OW (bltD .str st (.val (.int i))) P = (i.natAbs.log2 < 1920 ∧ P (.val (.str (Str.ofString (toString i))))) := OW_ite _ _ _
theorem D_bits : OW (bitsD (.val (.int i))) P = P (.val (.int (Builtin.Int.intBits i : Nat))) := rfl
theorem D_revS (z : Str) : OW (revT (.val (.str z))) P = (z.length ≤ sizeLine ∧ P (.val (.str (revS z)))) := OW_ite _ _ _
theorem D_revL : OW (revD st (.val (.lst ds))) P = P (.new ds.reverse) := rfl
theorem D_revN : OW (revD st (.new ds)) P = P (.new ds.reverse) := rfl
theorem seq_t : seqOf st (.val (.tup ds)) = some (false, ds) := rfl
theorem seq_l : seqOf st (.val (.lst ds)) = some (true, ds) := rfl
theorem seq_s : seqOf st (.val (.slst ds)) = some (true, ds) := rfl
theorem seq_n : seqOf st (.new ds) = some (true, ds) := rfl
theorem seq_b (n : Nat) (P : Bool × List Dt → Prop) : OW (seqOf ⟨env, T, ro⟩ (.val (.box n))) P = BW T[n]? (fun ds => P (true, ds)) := by
  simp only [seqOf]
  generalize T[n]? = o
  match o with
  | none | some (.lst _) | some (.dct _) | some (.ins _ _) | some .dead => rfl
theorem seq_o (n : Nat) (P : Bool × List Dt → Prop) : OW (seqOf ⟨env, T, ro⟩ (.own n)) P = OnW env[n]? (fun ds => P (true, ds)) := by
  simp only [seqOf]
  generalize env[n]? = o
  match o with
  | none | some (.val _) | some (.own _) | some .none | some (.ownd _) | some (.exn _) => rfl
theorem intsOf_map : ∀ ns : List Int, intsOf (ns.map Dt.int) = some ns
  | [] => rfl
  | n :: ns => by
    show (intsOf (ns.map Dt.int)).map (n :: ·) = _
    rw [intsOf_map ns]; rfl
theorem ints_n (ns : List Int) : intsH st (.new (ns.map .int)) = some ns := intsOf_map ns
theorem ints_l (ns : List Int) : intsH st (.val (.lst (ns.map .int))) = some ns := intsOf_map ns
theorem inta_n (ns : List Int) : intsA st (.new (ns.map .int)) = some ns := intsOf_map ns
theorem inta_l (ns : List Int) : intsA st (.val (.lst (ns.map .int))) = some ns := intsOf_map ns
theorem inta_t (ns : List Int) : intsA st (.val (.tup (ns.map .int))) = some ns := intsOf_map ns
theorem toPys_ints : ∀ ns : List Int, toPys (ns.map Dt.int) = some (ns.map PyData.int)
  | [] => rfl
  | n :: ns => by
    show (match toPy (.int n), toPys (ns.map Dt.int) with | some x, some xs => some (x :: xs) | _, _ => none) = _
    rw [toPys_ints ns]; rfl
theorem Au_add (P : Int → Prop) : OW (augD .add i j) P = P (i + j) := rfl
theorem Au_sub (P : Int → Prop) : OW (augD .sub i j) P = P (i - j) := rfl
theorem Au_bor (P : Int → Prop) : OW (augD .bor i j) P = P (Builtin.bitOr i j) := rfl
theorem Au_mul (P : Int → Prop) : OW (augD .mul i j) P = (mulOk i j = true ∧ P (i * j)) := OW_ite _ _ _
theorem sT0 : setTup [] [] st = some st := rfl
theorem sTS (k : Nat) (ks : List Nat) (d : Dt) : setTup (k :: ks) (d :: ds) st = setTup ks ds (st.setE k (.val d)) := rfl
theorem I1W_i (P) : I1W (.val (.int j)) P = (smallR 0 j = true ∧ P (.rng 0 j.toNat)) := rfl
theorem I2W_i (P) : I2W (.val (.int i)) (.val (.int j)) P = (smallR i j = true ∧ P (.rng i (j - i).toNat)) := rfl
theorem I3W_l (P) : I3W st (.val (.lst ds)) P = P (.seq (.val (.lst ds))) := rfl
theorem I3W_s (P) : I3W st (.val (.slst ds)) P = P (.seq (.val (.slst ds))) := rfl
theorem I3W_t (P) : I3W st (.val (.tup ds)) P = P (.seq (.val (.tup ds))) := rfl
theorem I3W_n (P) : I3W st (.new ds) P = P (.seq (.val (.lst ds))) := rfl
theorem I3W_f (n : Nat) (f : Str) (P) : I3W st (.fld n f) P = OW (liveOf st (.fld n f)) (fun ds => P (.seqR ds)) := rfl
theorem I3W_b (n : Nat) (P) : I3W st (.val (.box n)) P = OW (liveOf st (.val (.box n))) (fun ds => P (.seqR ds)) := rfl
/-! instances -/
def InW (o : Option Ob) (P : Nat → List (Str × Sl) → Prop) : Prop := match o with
  | some (.ins c fs) => P c fs
  | _ => False
theorem InW_s (c fs P) : InW (some (.ins c fs)) P = P c fs := rfl
def FdW (o : Option Sl) (n : Nat) (f : Str) (P : Hd → Prop) : Prop := match o with
  | some (.val d) => P (.val d)
  | some (.own _) => P (.fld n f)
  | some (.ownd _) => P (.fld n f)
  | _ => False
theorem FdW_v (d n f P) : FdW (some (.val d)) n f P = P (.val d) := rfl
theorem FdW_o (d n f P) : FdW (some (.own d)) n f P = P (.fld n f) := rfl
theorem FdW_d (d n f P) : FdW (some (.ownd d)) n f P = P (.fld n f) := rfl
def InB (o : Option Ob) (f : Str) : Bool := match o with
  | some (.ins _ fs) => OnB (fs.lookup f)
  | _ => false
theorem InB_s (c fs f) : InB (some (.ins c fs)) f = OnB (fs.lookup f) := rfl
theorem D_fld (ncl n : Nat) (f : Str) (P : Hd → Prop) : OW (fldD ncl ⟨env, T, ro⟩ (.val (.box n)) f) P = InW T[n]? (fun c fs => c < ncl ∧ FdW (fs.lookup f) n f P) := by
  unfold fldD insOf
  show OW (match (match T[n]? with | some (.ins c fs) => some (n, c, fs) | _ => none) with | some (n, c, fs) => _ | none => none) P = _
  generalize T[n]? = o
  match o with
  | some (.ins c fs) =>
    show OW (if c < ncl then _ else none) P = (c < ncl ∧ _)
    by_cases h : c < ncl
    · rw [if_pos h, eq_true h, true_and]
      generalize fs.lookup f = o
      match o with
      | none | some .none | some (.val _) | some (.own _) | some (.ownd _) | some (.exn _) => rfl
    · rw [if_neg h, eq_false h, false_and]; rfl
  | none | some (.lst _) | some (.dct _) | some .dead => rfl
theorem D_meth (ncl : Nat) (mth : Nat → Str → Option Nat) (n : Nat) (m : Str) (P : Nat × Nat → Prop) : OW (methD ncl mth ⟨env, T, ro⟩ (.val (.box n)) m) P = InW T[n]? (fun c fs => (c < ncl ∧ (fs.lookup m).isNone = true) ∧ OW (mth c m) (fun g => P (n, g))) := by
  unfold methD insOf
  show OW (match (match T[n]? with | some (.ins c fs) => some (n, c, fs) | _ => none) with | some (n, c, fs) => _ | none => none) P = _
  generalize T[n]? = o
  match o with
  | some (.ins c fs) =>
    show OW (if c < ncl ∧ (fs.lookup m).isNone = true then _ else none) P = ((c < ncl ∧ (fs.lookup m).isNone = true) ∧ _)
    by_cases h : c < ncl ∧ (fs.lookup m).isNone = true
    · rw [if_pos h, eq_true h, true_and]
      cases mth c m <;> rfl
    · rw [if_neg h, eq_false h, false_and]; rfl
  | none | some (.lst _) | some (.dct _) | some .dead => rfl
theorem D_setf (ncl n : Nat) (f : Str) (sl : Sl) (P : Sta → Prop) : OW (setfD ncl ⟨env, T, ro⟩ (.val (.box n)) f sl) P = InW T[n]? (fun c fs => (c < ncl ∧ ro = false ∧ fs.length < 1000) ∧ P ⟨env, T.set n (.ins c (putS f sl fs)), ro⟩) := by
  unfold setfD insOf
  show OW (match (match T[n]? with | some (.ins c fs) => some (n, c, fs) | _ => none) with | some (n, c, fs) => _ | none => none) P = _
  generalize T[n]? = o
  match o with
  | some (.ins c fs) => exact OW_ite _ _ _
  | none | some (.lst _) | some (.dct _) | some .dead => rfl
theorem SO_v (d : Dt) (P : Sl → Prop) : OW (slOf false (.val d)) P = P (.val d) := rfl
theorem SO_n (P : Sl → Prop) : OW (slOf true (.new ds)) P = P (.own ds) := rfl
theorem SO_nf (P : Sl → Prop) : OW (slOf false (.new ds)) P = P (.val (.lst ds)) := rfl
theorem SO_d (kvs) (P : Sl → Prop) : OW (slOf true (.newd kvs)) P = P (.ownd kvs) := rfl
theorem sq_f (n : Nat) (f : Str) (P : Bool × List Dt → Prop) : OW (seqOf ⟨env, T, ro⟩ (.fld n f)) P = InW T[n]? (fun _ fs => OnW (fs.lookup f) (fun ds => P (true, ds))) := by
  show OW (match T[n]? with | some (.ins _ fs) => _ | _ => none) P = _
  generalize T[n]? = o
  match o with
  | some (.ins c fs) =>
    show OW (match fs.lookup f with | some (.own ds) => some (true, ds) | _ => none) P = OnW (fs.lookup f) _
    generalize fs.lookup f = o
    match o with
    | none | some .none | some (.val _) | some (.own _) | some (.ownd _) | some (.exn _) => rfl
  | none | some (.lst _) | some (.dct _) | some .dead => rfl
theorem live_f (n : Nat) (f : Str) (P : List Dt → Prop) : OW (liveOf ⟨env, T, ro⟩ (.fld n f)) P = InW T[n]? (fun _ fs => OnW (fs.lookup f) P) := by
  show OW (match (match T[n]? with | some (.ins _ fs) => (match fs.lookup f with | some (.own ds) => some (true, ds) | _ => none) | _ => none) with | some (true, ds) => some ds | _ => none) P = _
  generalize T[n]? = o
  match o with
  | some (.ins c fs) =>
    show OW (match (match fs.lookup f with | some (.own ds) => some (true, ds) | _ => none) with | some (true, ds) => some ds | _ => none) P = OnW (fs.lookup f) _
    generalize fs.lookup f = o
    match o with
    | none | some .none | some (.val _) | some (.own _) | some (.ownd _) | some (.exn _) => rfl
  | none | some (.lst _) | some (.dct _) | some .dead => rfl
theorem live_b (n : Nat) (P : List Dt → Prop) : OW (liveOf ⟨env, T, ro⟩ (.val (.box n))) P = BW T[n]? P := by
  show OW (match (match T[n]? with | some (.lst ds) => some (true, ds) | _ => none) with | some (true, ds) => some ds | _ => none) P = _
  generalize T[n]? = o
  match o with
  | none | some (.ins _ _) | some (.lst _) | some (.dct _) | some .dead => rfl
theorem D_lenF (n : Nat) (f : Str) : OW (bltD .len ⟨env, T, ro⟩ (.fld n f)) P = InW T[n]? (fun _ fs => LnW (fs.lookup f) (fun k => P (.val (.int k))) ⟨⟩) := by
  show OW (match (match T[n]? with | some (.ins _ fs) => (match fs.lookup f with | some (.own ds) => some (true, ds) | _ => none) | _ => none) with
      | some (_, ds) => some (Hd.val (.int (ds : List Dt).length))
      | none => Option.map (fun kvs => Hd.val (.int (kvs : List (Dt × Dt)).length)) (match T[n]? with | some (.ins _ fs) => (match fs.lookup f with | some (.ownd kvs) => some kvs | _ => none) | _ => none)) P = _
  generalize T[n]? = o
  match o with
  | some (.ins c fs) =>
    show OW (match (match fs.lookup f with | some (.own ds) => some (true, ds) | _ => none) with
      | some (_, ds) => some (Hd.val (.int (ds : List Dt).length))
      | none => Option.map (fun kvs => Hd.val (.int (kvs : List (Dt × Dt)).length)) (match fs.lookup f with | some (.ownd kvs) => some kvs | _ => none)) P = LnW (fs.lookup f) (fun k => P (.val (.int k))) ⟨⟩
    generalize fs.lookup f = o
    match o with
    | none | some .none | some (.val _) | some (.own _) | some (.ownd _) | some (.exn _) => rfl
  | none | some (.lst _) | some (.dct _) | some .dead => rfl
theorem D_ixF (n : Nat) (f : Str) : OW (ixD ⟨env, T, ro⟩ (.fld n f) (.val (.int i))) P = InW T[n]? (fun _ fs => OnW (fs.lookup f) (fun ds => OW (atI ds i) (fun d => P (.val d)))) := by
  show OW (match (match T[n]? with | some (.ins _ fs) => (match fs.lookup f with | some (.own ds) => some (true, ds) | _ => none) | _ => none) with | some (_, ds) => (atI ds i).map Hd.val | none => none) P = _
  generalize T[n]? = o
  match o with
  | some (.ins c fs) =>
    show OW (match (match fs.lookup f with | some (.own ds) => some (true, ds) | _ => none) with | some (_, ds) => (atI ds i).map Hd.val | none => none) P = OnW (fs.lookup f) _
    generalize fs.lookup f = o
    match o with
    | some (.own ds) => exact OW_mv _ _ _
    | none | some .none | some (.val _) | some (.ownd _) | some (.exn _) => rfl
  | none | some (.lst _) | some (.dct _) | some .dead => rfl
theorem D_own (n : Nat) (f : Str) {α : Type} (F : Nat → List (Str × Sl) → List Dt → Option α) (P : α → Prop) : OW (match ownF ⟨env, T, ro⟩ n f with | some (c, fs, .own ds) => F c fs ds | _ => none) P = (ro = false ∧ InW T[n]? (fun c fs => OnW (fs.lookup f) (fun ds => OW (F c fs ds) P))) := by
  cases ro with
  | true => simp only [Bool.true_eq_false, false_and]; rfl
  | false =>
    simp only [true_and]
    show OW (match (match T[n]? with | some (.ins c fs) => (match fs.lookup f with | some sl => some (c, fs, sl) | none => none) | _ => none) with | some (c, fs, .own ds) => F c fs ds | _ => none) P = _
    generalize T[n]? = o
    match o with
    | some (.ins c fs) =>
      show OW (match (match fs.lookup f with | some sl => some (c, fs, sl) | none => none) with | some (c, fs, .own ds) => F c fs ds | _ => none) P = OnW (fs.lookup f) _
      generalize fs.lookup f = o
      match o with
      | none | some .none | some (.val _) | some (.own _) | some (.ownd _) | some (.exn _) => rfl
    | none | some (.lst _) | some (.dct _) | some .dead => rfl
theorem D_appF (P : Sta → Prop) (n : Nat) (f : Str) (d : Dt) : OW (appD ⟨env, T, ro⟩ (.fld n f) d) P = (ro = false ∧ InW T[n]? (fun c fs => OnW (fs.lookup f) (fun ds => ds.length < sizeLine ∧ P ⟨env, T.set n (.ins c (putS f (.own (ds ++ [d])) fs)), ro⟩))) := by
  refine (D_own env T ro n f (fun c fs ds => if ds.length < sizeLine then some (Sta.setF ⟨env, T, ro⟩ n c fs f (.own (ds ++ [d]))) else none) P).trans ?_
  simp only [OW_ite]
  rfl
theorem D_setF (P : Sta → Prop) (n : Nat) (f : Str) (d : Dt) : OW (setD ⟨env, T, ro⟩ (.fld n f) i d) P = (ro = false ∧ InW T[n]? (fun c fs => OnW (fs.lookup f) (fun ds => OW (ixN ds.length i) (fun j => P ⟨env, T.set n (.ins c (putS f (.own (ds.set j d)) fs)), ro⟩)))) := by
  refine (D_own env T ro n f (fun c fs ds => (ixN ds.length i).map fun j => Sta.setF ⟨env, T, ro⟩ n c fs f (.own (ds.set j d))) P).trans ?_
  have e : ∀ (o : Option Nat) (F : Nat → Sta), OW (o.map F) P = OW o (fun j => P (F j)) := fun o F => by cases o <;> rfl
  simp only [e]
  rfl
theorem D_poplF (P : Dt × Sta → Prop) (n : Nat) (f : Str) : OW (poplD ⟨env, T, ro⟩ (.fld n f)) P = (ro = false ∧ InW T[n]? (fun c fs => OnW (fs.lookup f) (fun ds => OW (ds[ds.length - 1]?) (fun d => P (d, ⟨env, T.set n (.ins c (putS f (.own ds.dropLast) fs)), ro⟩))))) := by
  refine (D_own env T ro n f (fun c fs ds => (ds[ds.length - 1]?).map fun d => (d, Sta.setF ⟨env, T, ro⟩ n c fs f (.own ds.dropLast))) P).trans ?_
  have e : ∀ (o : Option Dt) (F : Dt → Dt × Sta), OW (o.map F) P = OW o (fun j => P (F j)) := fun o F => by cases o <;> rfl
  simp only [e]
  rfl
theorem D_lofF (n : Nat) (f : Str) : (lstOf ⟨env, T, ro⟩ (.fld n f)).isSome = InB T[n]? f := by
  show (match (match T[n]? with | some (.ins _ fs) => (match fs.lookup f with | some (.own ds) => some (true, ds) | _ => none) | _ => none) with | some (true, ds) => some ds | _ => none).isSome = _
  generalize T[n]? = o
  match o with
  | some (.ins c fs) =>
    show (match (match fs.lookup f with | some (.own ds) => some (true, ds) | _ => none) with | some (true, ds) => some ds | _ => none).isSome = OnB (fs.lookup f)
    generalize fs.lookup f = o
    match o with
    | none | some .none | some (.val _) | some (.own _) | some (.ownd _) | some (.exn _) => rfl
  | none | some (.lst _) | some (.dct _) | some .dead => rfl
theorem tp0 (ncl : Nat) : tpSet ncl [] [] st = some st := rfl
theorem tpS (ncl k : Nat) (ts : List Tp) (d : Dt) : tpSet ncl (.sl k :: ts) (d :: ds) st = tpSet ncl ts ds (st.setE k (.val d)) := rfl
theorem isF_v (d : Dt) : (Hd.val d).isFld = false := rfl
theorem isF_n : (Hd.new ds).isFld = false := rfl
theorem IT_dt (p : Prop) [Decidable p] (A B : Prop) (h : p) : IT (decide p) A B = A := by rw [decide_eq_true h, IT_t]
theorem IT_df (p : Prop) [Decidable p] (A B : Prop) (h : ¬ p) : IT (decide p) A B = B := by rw [decide_eq_false h, IT_f]
theorem IT_e1 (b : Bool) (A B : Prop) : IT (decide (true = b)) A B = IT b A B := by cases b <;> rfl
theorem IT_e2 (b : Bool) (A B : Prop) : IT (decide (b = true)) A B = IT b A B := by cases b <;> rfl
theorem IT_e3 (b : Bool) (A B : Prop) : IT (decide (false = b)) A B = IT b B A := by cases b <;> simp [IT]
theorem IT_e4 (b : Bool) (A B : Prop) : IT (decide (b = false)) A B = IT b B A := by cases b <;> simp [IT]
theorem ixN_in (n : Nat) (i : Int) (h0 : 0 ≤ i) (h1 : i < n) : ixN n i = some i.toNat := by
  simp only [ixN, h0, h1, if_true]
theorem at_in {α : Type} (ds : List α) (i : Int) (h0 : 0 ≤ i) (h1 : i < ds.length) : atI ds i = ds[i.toNat]? := by
  simp only [atI, ixN_in _ _ h0 h1]; rfl
theorem at_ints (ns : List Int) (i : Int) (h0 : 0 ≤ i) (h1 : i < ns.length) : atI (ns.map Dt.int) i = some (.int (ns.getD i.toNat 0)) := by
  rw [at_in _ _ h0 (by simpa using h1)]
  have h2 : i.toNat < ns.length := by omega
  simp [h2]
theorem at0 {α : Type} (x : α) (l : List α) : atI (x :: l) 0 = some x := by
  rw [at_in _ _ (by omega) (by simp only [List.length_cons]; omega)]; rfl
theorem at1 {α : Type} (x y : α) (l : List α) : atI (x :: y :: l) 1 = some y := by
  rw [at_in _ _ (by omega) (by simp only [List.length_cons]; omega)]; rfl
theorem at2 {α : Type} (x y z : α) (l : List α) : atI (x :: y :: z :: l) 2 = some z := by
  rw [at_in _ _ (by omega) (by simp only [List.length_cons]; omega)]; rfl
theorem at3 {α : Type} (x y z u : α) (l : List α) : atI (x :: y :: z :: u :: l) 3 = some u := by
  rw [at_in _ _ (by omega) (by simp only [List.length_cons]; omega)]; rfl
theorem mulOk_l (i j : Int) (h0 : -18446744073709551616 < i) (h1 : i < 18446744073709551616) : mulOk i j = true := by
  simp only [mulOk, Bool.or_eq_true, Bool.and_eq_true, decide_eq_true_eq]
  left; omega
theorem mulOk_r (i j : Int) (h0 : -18446744073709551616 < j) (h1 : j < 18446744073709551616) : mulOk i j = true := by
  simp only [mulOk, Bool.or_eq_true, Bool.and_eq_true, decide_eq_true_eq]
  right; omega
theorem smallR_in (i j : Int) (h0 : -4611686018427387904 ≤ i) (h1 : i < 4611686018427387904) (h2 : -4611686018427387904 ≤ j) (h3 : j < 4611686018427387904) : smallR i j = true := by
  simp only [smallR, Bool.and_eq_true, decide_eq_true_eq]
  omega
end
/-! a run of a def -/
theorem run_succ (p : Prg) (k f : Nat) (ro : Bool) (ds : List Dt) (S : List Ob) (h : ds.length = p.ar f) : run p (k + 1) f ro ds S = runB (Gam p k) (p.fn f) ro ds S := by
  show (if ds.length = p.ar f then _ else _) = _
  rw [if_pos h]; rfl
/-- a def's answer -/
def VW (P : Hd → List Ob → Prop) : Fl → Sta → Prop := fun fl st => match fl with
  | .rt h => (Fl.rt h).vn = true ∧ P h st.S
  | .nx => P (.val .non) st.S
  | _ => False
theorem VW_rv (P d st) : VW P (.rt (.val d)) st = P (.val d) st.S := by simp [VW, Fl.vn]
theorem VW_rn (P d st) : VW P (.rt (.new d)) st = P (.new d) st.S := by simp [VW, Fl.vn]
theorem VW_nx (P st) : VW P .nx st = P (.val .non) st.S := rfl
/-- a block that answers a value in any case -/
def RV (P : Hd → List Ob → Prop) : Fl → Sta → Prop := fun fl st => match fl with
  | .rt (.val d) => P (.val d) st.S
  | _ => False
theorem RV_rv (P d st) : RV P (.rt (.val d)) st = P (.val d) st.S := rfl
theorem RV_FW {Γ : Gm} {ss : Ss} {r : Res Fl} {P : Hd → List Ob → Prop} {X X'} (h : W r (RV P) X) : W r (fun fl st => FW Γ ss fl st (VW P) X') X := by
  refine W_mono h ?_ (fun _ _ h => h)
  intro fl st h
  match fl with
  | .rt (.val d) => rw [FW_rt, VW_rv]; exact h
  | .nx | .bk | .ct => exact h.elim
  | .rt (.new _) | .rt (.newd _) | .rt (.own _) | .rt (.fld _ _) => exact h.elim
theorem RV_VW {r : Res Fl} {P : Hd → List Ob → Prop} {X} (h : W r (RV P) X) : W r (VW P) X := by
  refine W_mono h ?_ (fun _ _ h => h)
  intro fl st h
  match fl with
  | .rt (.val d) => rw [VW_rv]; exact h
  | .nx | .bk | .ct => exact h.elim
  | .rt (.new _) | .rt (.newd _) | .rt (.own _) | .rt (.fld _ _) => exact h.elim
theorem WC_run {p : Prg} {k f n : Nat} {body : Ss} {ro : Bool} {ds : List Dt} {T : List Ob} {Q X} (h : ds.length = p.ar f) (hf : p.fn f = ⟨n, body⟩) (hk : 0 < k)
    (hw : W (evSs (Gam p (k - 1)) body ⟨ds.map .val ++ List.replicate (n - ds.length) .none, T, ro⟩) (VW Q) (fun c st => X c st.S)) : WC (run p k f ro ds T) Q X := by
  obtain ⟨k, rfl⟩ : ∃ k', k = k' + 1 := ⟨k - 1, by omega⟩
  rw [run_succ p k f ro ds T h, hf]
  unfold runB
  rw [show k + 1 - 1 = k from rfl] at hw
  show WC (match evSs (Gam p k) body ⟨ds.map .val ++ List.replicate (n - ds.length) .none, T, ro⟩ with | .ok (.rt h) st => if (Fl.rt h).vn then .ok h st.S else .stuck | .ok .nx st => .ok (.val .non) st.S | .exc c st => .exc c st.S | _ => .stuck) Q X
  generalize evSs (Gam p k) body ⟨ds.map .val ++ List.replicate (n - ds.length) .none, T, ro⟩ = r at hw ⊢
  match r with
  | .ok (.rt h) st =>
    show WC (if _ then _ else _) Q X
    rw [if_pos hw.1]
    exact hw.2
  | .ok .nx st => exact hw
  | .exc c st => exact hw
  | .ok .bk st => exact hw
  | .ok .ct st => exact hw
  | .stuck => exact hw
theorem WC_eq {r : CRes} {h : Hd} {S : List Ob} (hw : WC r (fun h' S' => h' = h ∧ S' = S) (fun _ _ => False)) : r = .ok h S := by
  match r with
  | .ok h' S' => obtain ⟨rfl, rfl⟩ := hw; rfl
  | .exc _ _ => exact hw.elim
  | .stuck => exact hw.elim
theorem WC_ex {r : CRes} {h : Hd} (hw : WC r (fun h' _ => h' = h) (fun _ _ => False)) : ∃ S, r = .ok h S := by
  match r with
  | .ok h' S' => exact ⟨S', by rw [show h' = h from hw]⟩
  | .exc _ _ => exact hw.elim
  | .stuck => exact hw.elim
theorem WC_eqX {r : CRes} {c : Nat} {S : List Ob} (hw : WC r (fun _ _ => False) (fun c' S' => c' = c ∧ S' = S)) : r = .exc c S := by
  match r with
  | .exc h' S' => obtain ⟨rfl, rfl⟩ := hw; rfl
  | .ok _ _ => exact hw.elim
  | .stuck => exact hw.elim
end EV
namespace EV
open PySem PySem.Spec PyProof.Rows L2

def bPick : Ss :=
  (.cons (.asg (.name 2) false (.ix (.var 0) (.cst (.int 1))))
  (.cons (.setix (.var 0) (.cst (.int 1)) (.bin .add (.var 2) (.cst (.int 1))))
  (.cons (.asg (.name 3) false (.bin .fdiv (.var 2) (.blt .len (.ix (.var 0) (.cst (.int 0))))))
  (.cons (.ret (.bin .mod (.blt .int (.bin .add (.bin .add (.ix (.ix (.var 0) (.cst (.int 0))) (.bin .mod (.blt .int (.var 2)) (.blt .len (.ix (.var 0) (.cst (.int 0)))))) (.bin .mul (.var 3) (.cst (.int 1009)))) (.bin .mul (.var 3) (.var 2)))) (.var 1)))
  .nil))))
def pl (ns : List Int) (a : Int) : Ob := .lst [.lst (ns.map .int), .int a]
structure GP (ns : List Int) : Prop where
  pos : 0 < ns.length
  le : ns.length ≤ 241
  val : ∀ x ∈ ns, 0 ≤ x ∧ x < 4096
def pv (ns : List Int) (a m : Int) : Int := (ns.getD (a.fmod ns.length).toNat 0 + a.fdiv ns.length * 1009 + a.fdiv ns.length * a).fmod m
theorem pv_nn (ns : List Int) (a m : Int) (h : 0 < m) : 0 ≤ pv ns a m := Int.fmod_nonneg_of_pos _ h
theorem pv_lt (ns : List Int) (a m : Int) (h : 0 < m) : pv ns a m < m := Int.fmod_lt_of_pos _ h
theorem pick_run {p : Prg} {f : Nat} (hf : p.fn f = ⟨4, bPick⟩) (ha : p.ar f = 2) {k : Nat} (hk : 0 < k) {ns : List Int} (g : GP ns) {a m : Int} (h0 : 0 ≤ a) (h1 : a < 1000000) (hm : 0 < m) (T : List Ob) :
    run p k f false [.box 0, .int m] (pl ns a :: T) = .ok (.val (.int (pv ns a m))) (pl ns (a + 1) :: T) := by
  have gl := g.le
  have gp := g.pos
  refine WC_eq (WC_run (by rw [ha]; rfl) hf hk ?_)
  have hd : a.fdiv ns.length = a / ns.length := by rw [Int.fdiv_eq_ediv_of_nonneg _ (by omega)]
  have hd0 : 0 ≤ a / (ns.length : Int) := Int.ediv_nonneg h0 (by omega)
  have hd1 : a / (ns.length : Int) ≤ a := Int.ediv_le_self _ h0
  have hm0 : 0 ≤ a.fmod ns.length := Int.fmod_nonneg_of_pos _ (by omega)
  have hm1 : a.fmod ns.length < ns.length := Int.fmod_lt_of_pos _ (by omega)
  simp -implicitDefEqProofs -dsimp (disch := omega) only [bPick, pl, List.map, List.length, List.replicate, List.cons_append, List.nil_append, ↓W_dt, ↓W_fld, ↓W_meth, ↓W_make, ↓MkW_n, ↓W_popl, ↓W_setf, ↓W_augx, ↓W_asgM, ↓Gam_ncl, ↓EnW_l, ↓EnW_s, ↓EnW_n, ↓EnW_f, ↓EnW_b, ↓LG_rng, ↓LG_seq, ↓LG_enum, ↓LG_zip, ↓LG_str, ↓LG_seqR, ↓LG_enumR, ↓I3W_f, ↓I3W_b, ↓InW_s, ↓FdW_v, ↓FdW_o, ↓FdW_d, ↓InB_s, ↓D_fld, ↓D_meth, ↓D_setf, ↓SO_v, ↓SO_n, ↓SO_nf, ↓SO_d, ↓sq_f, ↓live_f, ↓live_b, ↓D_lenF, ↓D_ixF, ↓D_appF, ↓D_setF, ↓D_poplF, ↓D_lofF, ↓tp0, ↓tpS, ↓bh_f, ↓W_var, ↓W_cst, ↓W_glob, ↓W_bin, ↓W_cmp, ↓W_ix, ↓W_un, ↓W_blt, ↓W_blt2, ↓W_isi, ↓W_bits, ↓W_idx, ↓W_find, ↓W_pop, ↓W_dnew, ↓W_dix, ↓W_din, ↓W_sset, ↓D_sset, ↓W_lrg1, ↓W_lrg2, ↓W_dput, ↓StW_s, ↓ViW_i, ↓VaW_v, ↓SlW_d, ↓bh_nd, ↓OdW_s, ↓LnW_o, ↓LnW_d, ↓D_pop, ↓D_dixI, ↓D_dixS, ↓D_dinI, ↓D_dinS, ↓D_dputI, ↓D_dputS, ↓D_find, ↓D_lrg, ↓W_enum, ↓W_zip, ↓W_istr, ↓lstP_l, ↓lstP_s, ↓lstP_n, ↓lstQ_l, ↓W_revl, ↓W_revs, ↓W_sl, ↓W_bind, ↓W_partT, ↓W_partF, ↓PaW_i, ↓D_list, ↓D_tuple, ↓D_sum, ↓D_sorted, ↓D_maxl, ↓D_minl, ↓D_str, ↓D_bits, ↓D_revS, ↓D_revL, ↓D_revN, ↓seq_t, ↓seq_l, ↓seq_s, ↓seq_n, ↓seq_b, ↓seq_o, ↓ints_n, ↓ints_l, ↓inta_n, ↓inta_l, ↓inta_t, ↓W_exi, ↓W_chain, ↓W_not, ↓W_and, ↓W_or, ↓W_ife, ↓W_tup, ↓W_lst, ↓W_call, ↓W_frz, ↓W_mkbox, ↓W_app, ↓W_enil, ↓W_econs, ↓W_rng1, ↓W_rng2, ↓W_seq, ↓W_asg, ↓W_asgO, ↓W_asgT, ↓W_aug, ↓W_setix, ↓W_expr, ↓W_ret, ↓W_retN, ↓W_pass, ↓W_brk, ↓W_cont, ↓W_raise, ↓W_if, ↓W_for, ↓W_nil, ↓W_cons, ↓W_try, ↓W_ok, ↓W_exc, ↓WC_ok, ↓WC_exc, ↓WK_ok, ↓WK_exc, ↓TW_b, ↓DW_v, ↓DW_n, ↓IT_t, ↓IT_f, ↓IT_dt, ↓IT_df, IT_d, ↓IT_e1, ↓IT_e2, ↓IT_e3, ↓IT_e4, ↓IT_n, ↓IT_a, ↓SlW_v, ↓SlW_o, ↓OW_s, ↓FW_nx, ↓FW_rt, ↓FW_bk, ↓FW_ct, ↓RW_v, ↓RW_n, ↓RW_o, ↓bh_v, ↓bh_n, ↓bh_o, ↓Gam_glob, ↓D_add, ↓D_sub, ↓D_mul, ↓D_fdiv, ↓D_mod, ↓D_band, ↓D_bor, ↓D_bxor, ↓D_shl, ↓D_shr, ↓D_lt, ↓D_le, ↓D_gt, ↓D_ge, ↓D_eqi, ↓D_nei, ↓D_eqb,  ↓D_neb, ↓D_isN, ↓D_inN, ↓D_isi1, ↓D_ini1, ↓D_ist1, ↓D_int1, ↓D_isl1, ↓D_inl1, ↓D_isn1, ↓D_inn1, ↓D_isb1, ↓D_inb1, ↓D_neg, ↓D_abs, ↓D_int, ↓D_intb, ↓D_lenT, ↓D_lenL, ↓D_lenS, ↓D_lenN, ↓D_lenB, ↓D_lenO, ↓D_max, ↓D_min, ↓D_ixT, ↓D_ixL, ↓D_ixS, ↓D_ixN, ↓D_ixB, ↓D_ixO, ↓D_setB, ↓D_setO, ↓D_appO, ↓D_lof, ↓D_catNN, ↓D_catNL, ↓D_catLN, ↓D_catLL, ↓D_ii, ↓D_ib, ↓D_bi, ↓D_bb, ↓BW_s, ↓OnW_s, ↓OnB_s, ↓VW_rv, ↓VW_rn, ↓VW_nx, ↓RV_rv, ↓at0, ↓at1, ↓at2, ↓at3, ↓Au_add, ↓Au_sub, ↓Au_bor, ↓Au_mul, ↓sT0, ↓sTS, ↓I1W_i, ↓I2W_i, ↓I3W_l, ↓I3W_s, ↓I3W_t, ↓I3W_n, ↓stepQ_nx, ↓stepQ_ct, ↓stepQ_bk, ↓stepQ_rt, ↓sE, ↓eg0, ↓egS, ↓st0, ↓stS, ↓true_and, ↓and_true, ↓eq_self, ↓isF_v, ↓isF_n, ↓decide_true, ↓decide_false, ↓Bool.not_true, ↓Bool.not_false, List.length_map, ixN_in, at_ints, mulOk_l, Int.toNat_one, List.set_cons_zero, List.set_cons_succ]
  exact ⟨⟨by omega, by omega⟩, by omega, by omega, rfl⟩

/-! the script's numbers -/
def bNumK : Ss := (.cons (.iff (.and (.cmp .gt (.var 5) (.cst (.int 0))) (.cmp .lt (.blt .len (.var 3)) (.var 2)))
          (.cons (.expr (.app (.var 3) (.bin .mod (.blt .int (.var 5)) (.cst (.int 4096)))))
          (.cons (.asg (.name 5) false (.bin .fdiv (.var 5) (.cst (.int 4096))))
          .nil))
          .nil)
        .nil)
def bNumA : Ss := (.cons (.for_ (.name 6) (.rng1 (.cst (.int 60))) bNumK) .nil)
def bNumB : Ss := (.cons (.iff (.cmp .lt (.blt .len (.var 3)) (.var 2))
        (.cons (.asg (.name 7) false (.bin .mod (.blt .int (.bin .add (.bin .add (.bin .mul (.var 5) (.cst (.int 48271))) (.bin .mul (.var 4) (.cst (.int 69621)))) (.cst (.int 12345)))) (.cst (.int 2147483647))))
        (.cons (.asg (.name 7) false (.bin .mod (.blt .int (.bin .add (.bin .mul (.var 7) (.cst (.int 69621))) (.bin .fdiv (.var 7) (.cst (.int 1009))))) (.cst (.int 1000003))))
        (.cons (.expr (.app (.var 3) (.bin .mod (.blt .int (.var 7)) (.cst (.int 4096)))))
        .nil)))
        .nil)
      .nil)
def bNumF : Ss := (.cons (.asg (.name 5) false (.blt .abs (.ix (.var 0) (.var 4))))
    (.cons (.iff (.cmp .ge (.var 5) (.cst (.int 1000000000000000000))) bNumA bNumB)
    .nil))
def bNumT : Ss := (.cons (.ret (.var 3)) .nil)
def bNum : Ss :=
  (.cons (.asg (.name 3) true (.lst .nil))
  (.cons (.for_ (.name 4) (.rng2 (.var 1) (.blt .len (.var 0))) bNumF) bNumT))
theorem map_snoc (ns : List Int) (x : Int) : ns.map Dt.int ++ [Dt.int x] = (ns ++ [x]).map Dt.int := by rw [List.map_append]; rfl
structure GN (ns : List Int) (m : Int) : Prop where
  le : ns.length ≤ m
  val : ∀ x ∈ ns, 0 ≤ x ∧ x < 4096
theorem GN.app {ns : List Int} {m : Int} (g : GN ns m) (h : (ns.length : Int) < m) (i : Int) : GN (ns ++ [i.fmod 4096]) m := by
  refine ⟨by simp only [List.length_append, List.length_cons, List.length_nil]; omega, fun x hx => ?_⟩
  rcases List.mem_append.1 hx with h1 | h1
  · exact g.val x h1
  · rw [List.mem_singleton.1 h1]
    exact ⟨Int.fmod_nonneg_of_pos _ (by omega), Int.fmod_lt_of_pos _ (by omega)⟩
def numI (s : List Int) (lo m : Int) (T : List Ob) (st : Sta) : Prop :=
  ∃ ns s4 s5 s6 s7, GN ns m ∧ st = ⟨[.val (.slst (s.map .int)), .val (.int lo), .val (.int m), .own (ns.map .int), s4, s5, s6, s7], T, false⟩
def numJ (s : List Int) (lo m : Int) (T : List Ob) (st : Sta) : Prop :=
  ∃ ns s4 i s6 s7, GN ns m ∧ st = ⟨[.val (.slst (s.map .int)), .val (.int lo), .val (.int m), .own (ns.map .int), s4, .val (.int i), s6, s7], T, false⟩
theorem num_run {p : Prg} {f : Nat} (hf : p.fn f = ⟨8, bNum⟩) (ha : p.ar f = 3) {k : Nat} (hk : 0 < k) {s : List Int} (hs : s.length ≤ 63) {lo m : Int} (h0 : 0 ≤ lo) (h1 : lo ≤ 63) (hm : 0 ≤ m) (hm1 : m ≤ 240) (T : List Ob) :
    WC (run p k f false [.slst (s.map .int), .int lo, .int m] T) (fun h T' => ∃ ns, GN ns m ∧ h = .new (ns.map .int) ∧ T' = T) (fun _ _ => False) := by
  refine WC_run (by rw [ha]; rfl) hf hk ?_
  have zl : sizeLine = 16777216 := rfl
  simp -implicitDefEqProofs -dsimp (disch := omega) only [bNum, List.map, List.length, List.replicate, List.cons_append, List.nil_append, ↓W_dt, ↓W_fld, ↓W_meth, ↓W_make, ↓MkW_n, ↓W_popl, ↓W_setf, ↓W_augx, ↓W_asgM, ↓Gam_ncl, ↓EnW_l, ↓EnW_s, ↓EnW_n, ↓EnW_f, ↓EnW_b, ↓LG_rng, ↓LG_seq, ↓LG_enum, ↓LG_zip, ↓LG_str, ↓LG_seqR, ↓LG_enumR, ↓I3W_f, ↓I3W_b, ↓InW_s, ↓FdW_v, ↓FdW_o, ↓FdW_d, ↓InB_s, ↓D_fld, ↓D_meth, ↓D_setf, ↓SO_v, ↓SO_n, ↓SO_nf, ↓SO_d, ↓sq_f, ↓live_f, ↓live_b, ↓D_lenF, ↓D_ixF, ↓D_appF, ↓D_setF, ↓D_poplF, ↓D_lofF, ↓tp0, ↓tpS, ↓bh_f, ↓W_var, ↓W_cst, ↓W_glob, ↓W_bin, ↓W_cmp, ↓W_ix, ↓W_un, ↓W_blt, ↓W_blt2, ↓W_isi, ↓W_bits, ↓W_idx, ↓W_find, ↓W_pop, ↓W_dnew, ↓W_dix, ↓W_din, ↓W_sset, ↓D_sset, ↓W_lrg1, ↓W_lrg2, ↓W_dput, ↓StW_s, ↓ViW_i, ↓VaW_v, ↓SlW_d, ↓bh_nd, ↓OdW_s, ↓LnW_o, ↓LnW_d, ↓D_pop, ↓D_dixI, ↓D_dixS, ↓D_dinI, ↓D_dinS, ↓D_dputI, ↓D_dputS, ↓D_find, ↓D_lrg, ↓W_enum, ↓W_zip, ↓W_istr, ↓lstP_l, ↓lstP_s, ↓lstP_n, ↓lstQ_l, ↓W_revl, ↓W_revs, ↓W_sl, ↓W_bind, ↓W_partT, ↓W_partF, ↓PaW_i, ↓D_list, ↓D_tuple, ↓D_sum, ↓D_sorted, ↓D_maxl, ↓D_minl, ↓D_str, ↓D_bits, ↓D_revS, ↓D_revL, ↓D_revN, ↓seq_t, ↓seq_l, ↓seq_s, ↓seq_n, ↓seq_b, ↓seq_o, ↓ints_n, ↓ints_l, ↓inta_n, ↓inta_l, ↓inta_t, ↓W_exi, ↓W_chain, ↓W_not, ↓W_and, ↓W_or, ↓W_ife, ↓W_tup, ↓W_lst, ↓W_call, ↓W_frz, ↓W_mkbox, ↓W_app, ↓W_enil, ↓W_econs, ↓W_rng1, ↓W_rng2, ↓W_seq, ↓W_asg, ↓W_asgO, ↓W_asgT, ↓W_aug, ↓W_setix, ↓W_expr, ↓W_ret, ↓W_retN, ↓W_pass, ↓W_brk, ↓W_cont, ↓W_raise, ↓W_if, ↓W_for, ↓W_nil, ↓W_cons, ↓W_try, ↓W_ok, ↓W_exc, ↓WC_ok, ↓WC_exc, ↓WK_ok, ↓WK_exc, ↓TW_b, ↓DW_v, ↓DW_n, ↓IT_t, ↓IT_f, ↓IT_dt, ↓IT_df, IT_d, ↓IT_e1, ↓IT_e2, ↓IT_e3, ↓IT_e4, ↓IT_n, ↓IT_a, ↓SlW_v, ↓SlW_o, ↓OW_s, ↓FW_nx, ↓FW_rt, ↓FW_bk, ↓FW_ct, ↓RW_v, ↓RW_n, ↓RW_o, ↓bh_v, ↓bh_n, ↓bh_o, ↓Gam_glob, ↓D_add, ↓D_sub, ↓D_mul, ↓D_fdiv, ↓D_mod, ↓D_band, ↓D_bor, ↓D_bxor, ↓D_shl, ↓D_shr, ↓D_lt, ↓D_le, ↓D_gt, ↓D_ge, ↓D_eqi, ↓D_nei, ↓D_eqb,  ↓D_neb, ↓D_isN, ↓D_inN, ↓D_isi1, ↓D_ini1, ↓D_ist1, ↓D_int1, ↓D_isl1, ↓D_inl1, ↓D_isn1, ↓D_inn1, ↓D_isb1, ↓D_inb1, ↓D_neg, ↓D_abs, ↓D_int, ↓D_intb, ↓D_lenT, ↓D_lenL, ↓D_lenS, ↓D_lenN, ↓D_lenB, ↓D_lenO, ↓D_max, ↓D_min, ↓D_ixT, ↓D_ixL, ↓D_ixS, ↓D_ixN, ↓D_ixB, ↓D_ixO, ↓D_setB, ↓D_setO, ↓D_appO, ↓D_lof, ↓D_catNN, ↓D_catNL, ↓D_catLN, ↓D_catLL, ↓D_ii, ↓D_ib, ↓D_bi, ↓D_bb, ↓BW_s, ↓OnW_s, ↓OnB_s, ↓VW_rv, ↓VW_rn, ↓VW_nx, ↓RV_rv, ↓at0, ↓at1, ↓at2, ↓at3, ↓Au_add, ↓Au_sub, ↓Au_bor, ↓Au_mul, ↓sT0, ↓sTS, ↓I1W_i, ↓I2W_i, ↓I3W_l, ↓I3W_s, ↓I3W_t, ↓I3W_n, ↓stepQ_nx, ↓stepQ_ct, ↓stepQ_bk, ↓stepQ_rt, ↓sE, ↓eg0, ↓egS, ↓st0, ↓stS, ↓true_and, ↓and_true, ↓eq_self, ↓isF_v, ↓isF_n, ↓decide_true, ↓decide_false, ↓Bool.not_true, ↓Bool.not_false, List.length_map, smallR_in, List.set_cons_zero, List.set_cons_succ]
  refine ⟨by omega, by omega, W_loop_rng (fun _ => numI s lo m T) ?_ ?_ ?_⟩
  · exact ⟨[], _, _, _, _, ⟨hm, fun x hx => absurd hx (by simp)⟩, rfl⟩
  · rintro k st hk ⟨ns, s4, s5, s6, s7, g, rfl⟩
    simp -implicitDefEqProofs -dsimp (disch := omega) only [bNumF, ↓W_dt, ↓W_fld, ↓W_meth, ↓W_make, ↓MkW_n, ↓W_popl, ↓W_setf, ↓W_augx, ↓W_asgM, ↓Gam_ncl, ↓EnW_l, ↓EnW_s, ↓EnW_n, ↓EnW_f, ↓EnW_b, ↓LG_rng, ↓LG_seq, ↓LG_enum, ↓LG_zip, ↓LG_str, ↓LG_seqR, ↓LG_enumR, ↓I3W_f, ↓I3W_b, ↓InW_s, ↓FdW_v, ↓FdW_o, ↓FdW_d, ↓InB_s, ↓D_fld, ↓D_meth, ↓D_setf, ↓SO_v, ↓SO_n, ↓SO_nf, ↓SO_d, ↓sq_f, ↓live_f, ↓live_b, ↓D_lenF, ↓D_ixF, ↓D_appF, ↓D_setF, ↓D_poplF, ↓D_lofF, ↓tp0, ↓tpS, ↓bh_f, ↓W_var, ↓W_cst, ↓W_glob, ↓W_bin, ↓W_cmp, ↓W_ix, ↓W_un, ↓W_blt, ↓W_blt2, ↓W_isi, ↓W_bits, ↓W_idx, ↓W_find, ↓W_pop, ↓W_dnew, ↓W_dix, ↓W_din, ↓W_sset, ↓D_sset, ↓W_lrg1, ↓W_lrg2, ↓W_dput, ↓StW_s, ↓ViW_i, ↓VaW_v, ↓SlW_d, ↓bh_nd, ↓OdW_s, ↓LnW_o, ↓LnW_d, ↓D_pop, ↓D_dixI, ↓D_dixS, ↓D_dinI, ↓D_dinS, ↓D_dputI, ↓D_dputS, ↓D_find, ↓D_lrg, ↓W_enum, ↓W_zip, ↓W_istr, ↓lstP_l, ↓lstP_s, ↓lstP_n, ↓lstQ_l, ↓W_revl, ↓W_revs, ↓W_sl, ↓W_bind, ↓W_partT, ↓W_partF, ↓PaW_i, ↓D_list, ↓D_tuple, ↓D_sum, ↓D_sorted, ↓D_maxl, ↓D_minl, ↓D_str, ↓D_bits, ↓D_revS, ↓D_revL, ↓D_revN, ↓seq_t, ↓seq_l, ↓seq_s, ↓seq_n, ↓seq_b, ↓seq_o, ↓ints_n, ↓ints_l, ↓inta_n, ↓inta_l, ↓inta_t, ↓W_exi, ↓W_chain, ↓W_not, ↓W_and, ↓W_or, ↓W_ife, ↓W_tup, ↓W_lst, ↓W_call, ↓W_frz, ↓W_mkbox, ↓W_app, ↓W_enil, ↓W_econs, ↓W_rng1, ↓W_rng2, ↓W_seq, ↓W_asg, ↓W_asgO, ↓W_asgT, ↓W_aug, ↓W_setix, ↓W_expr, ↓W_ret, ↓W_retN, ↓W_pass, ↓W_brk, ↓W_cont, ↓W_raise, ↓W_if, ↓W_for, ↓W_nil, ↓W_cons, ↓W_try, ↓W_ok, ↓W_exc, ↓WC_ok, ↓WC_exc, ↓WK_ok, ↓WK_exc, ↓TW_b, ↓DW_v, ↓DW_n, ↓IT_t, ↓IT_f, ↓IT_dt, ↓IT_df, IT_d, ↓IT_e1, ↓IT_e2, ↓IT_e3, ↓IT_e4, ↓IT_n, ↓IT_a, ↓SlW_v, ↓SlW_o, ↓OW_s, ↓FW_nx, ↓FW_rt, ↓FW_bk, ↓FW_ct, ↓RW_v, ↓RW_n, ↓RW_o, ↓bh_v, ↓bh_n, ↓bh_o, ↓Gam_glob, ↓D_add, ↓D_sub, ↓D_mul, ↓D_fdiv, ↓D_mod, ↓D_band, ↓D_bor, ↓D_bxor, ↓D_shl, ↓D_shr, ↓D_lt, ↓D_le, ↓D_gt, ↓D_ge, ↓D_eqi, ↓D_nei, ↓D_eqb,  ↓D_neb, ↓D_isN, ↓D_inN, ↓D_isi1, ↓D_ini1, ↓D_ist1, ↓D_int1, ↓D_isl1, ↓D_inl1, ↓D_isn1, ↓D_inn1, ↓D_isb1, ↓D_inb1, ↓D_neg, ↓D_abs, ↓D_int, ↓D_intb, ↓D_lenT, ↓D_lenL, ↓D_lenS, ↓D_lenN, ↓D_lenB, ↓D_lenO, ↓D_max, ↓D_min, ↓D_ixT, ↓D_ixL, ↓D_ixS, ↓D_ixN, ↓D_ixB, ↓D_ixO, ↓D_setB, ↓D_setO, ↓D_appO, ↓D_lof, ↓D_catNN, ↓D_catNL, ↓D_catLN, ↓D_catLL, ↓D_ii, ↓D_ib, ↓D_bi, ↓D_bb, ↓BW_s, ↓OnW_s, ↓OnB_s, ↓VW_rv, ↓VW_rn, ↓VW_nx, ↓RV_rv, ↓at0, ↓at1, ↓at2, ↓at3, ↓Au_add, ↓Au_sub, ↓Au_bor, ↓Au_mul, ↓sT0, ↓sTS, ↓I1W_i, ↓I2W_i, ↓I3W_l, ↓I3W_s, ↓I3W_t, ↓I3W_n, ↓stepQ_nx, ↓stepQ_ct, ↓stepQ_bk, ↓stepQ_rt, ↓sE, ↓eg0, ↓egS, ↓st0, ↓stS, ↓true_and, ↓and_true, ↓eq_self, ↓isF_v, ↓isF_n, ↓decide_true, ↓decide_false, ↓Bool.not_true, ↓Bool.not_false, List.length_map, at_ints, List.set_cons_zero, List.set_cons_succ]
    have hc0 : 0 ≤ (if s.getD (lo + k).toNat 0 < 0 then -s.getD (lo + k).toNat 0 else s.getD (lo + k).toNat 0) := by split <;> omega
    revert hc0
    generalize (if s.getD (lo + k).toNat 0 < 0 then -s.getD (lo + k).toNat 0 else s.getD (lo + k).toNat 0) = c
    intro hc0
    have gl := g.le
    refine ⟨fun _ => ?_, fun hc => ?_⟩
    · simp -implicitDefEqProofs -dsimp (disch := omega) only [bNumA, ↓W_dt, ↓W_fld, ↓W_meth, ↓W_make, ↓MkW_n, ↓W_popl, ↓W_setf, ↓W_augx, ↓W_asgM, ↓Gam_ncl, ↓EnW_l, ↓EnW_s, ↓EnW_n, ↓EnW_f, ↓EnW_b, ↓LG_rng, ↓LG_seq, ↓LG_enum, ↓LG_zip, ↓LG_str, ↓LG_seqR, ↓LG_enumR, ↓I3W_f, ↓I3W_b, ↓InW_s, ↓FdW_v, ↓FdW_o, ↓FdW_d, ↓InB_s, ↓D_fld, ↓D_meth, ↓D_setf, ↓SO_v, ↓SO_n, ↓SO_nf, ↓SO_d, ↓sq_f, ↓live_f, ↓live_b, ↓D_lenF, ↓D_ixF, ↓D_appF, ↓D_setF, ↓D_poplF, ↓D_lofF, ↓tp0, ↓tpS, ↓bh_f, ↓W_var, ↓W_cst, ↓W_glob, ↓W_bin, ↓W_cmp, ↓W_ix, ↓W_un, ↓W_blt, ↓W_blt2, ↓W_isi, ↓W_bits, ↓W_idx, ↓W_find, ↓W_pop, ↓W_dnew, ↓W_dix, ↓W_din, ↓W_sset, ↓D_sset, ↓W_lrg1, ↓W_lrg2, ↓W_dput, ↓StW_s, ↓ViW_i, ↓VaW_v, ↓SlW_d, ↓bh_nd, ↓OdW_s, ↓LnW_o, ↓LnW_d, ↓D_pop, ↓D_dixI, ↓D_dixS, ↓D_dinI, ↓D_dinS, ↓D_dputI, ↓D_dputS, ↓D_find, ↓D_lrg, ↓W_enum, ↓W_zip, ↓W_istr, ↓lstP_l, ↓lstP_s, ↓lstP_n, ↓lstQ_l, ↓W_revl, ↓W_revs, ↓W_sl, ↓W_bind, ↓W_partT, ↓W_partF, ↓PaW_i, ↓D_list, ↓D_tuple, ↓D_sum, ↓D_sorted, ↓D_maxl, ↓D_minl, ↓D_str, ↓D_bits, ↓D_revS, ↓D_revL, ↓D_revN, ↓seq_t, ↓seq_l, ↓seq_s, ↓seq_n, ↓seq_b, ↓seq_o, ↓ints_n, ↓ints_l, ↓inta_n, ↓inta_l, ↓inta_t, ↓W_exi, ↓W_chain, ↓W_not, ↓W_and, ↓W_or, ↓W_ife, ↓W_tup, ↓W_lst, ↓W_call, ↓W_frz, ↓W_mkbox, ↓W_app, ↓W_enil, ↓W_econs, ↓W_rng1, ↓W_rng2, ↓W_seq, ↓W_asg, ↓W_asgO, ↓W_asgT, ↓W_aug, ↓W_setix, ↓W_expr, ↓W_ret, ↓W_retN, ↓W_pass, ↓W_brk, ↓W_cont, ↓W_raise, ↓W_if, ↓W_for, ↓W_nil, ↓W_cons, ↓W_try, ↓W_ok, ↓W_exc, ↓WC_ok, ↓WC_exc, ↓WK_ok, ↓WK_exc, ↓TW_b, ↓DW_v, ↓DW_n, ↓IT_t, ↓IT_f, ↓IT_dt, ↓IT_df, IT_d, ↓IT_e1, ↓IT_e2, ↓IT_e3, ↓IT_e4, ↓IT_n, ↓IT_a, ↓SlW_v, ↓SlW_o, ↓OW_s, ↓FW_nx, ↓FW_rt, ↓FW_bk, ↓FW_ct, ↓RW_v, ↓RW_n, ↓RW_o, ↓bh_v, ↓bh_n, ↓bh_o, ↓Gam_glob, ↓D_add, ↓D_sub, ↓D_mul, ↓D_fdiv, ↓D_mod, ↓D_band, ↓D_bor, ↓D_bxor, ↓D_shl, ↓D_shr, ↓D_lt, ↓D_le, ↓D_gt, ↓D_ge, ↓D_eqi, ↓D_nei, ↓D_eqb,  ↓D_neb, ↓D_isN, ↓D_inN, ↓D_isi1, ↓D_ini1, ↓D_ist1, ↓D_int1, ↓D_isl1, ↓D_inl1, ↓D_isn1, ↓D_inn1, ↓D_isb1, ↓D_inb1, ↓D_neg, ↓D_abs, ↓D_int, ↓D_intb, ↓D_lenT, ↓D_lenL, ↓D_lenS, ↓D_lenN, ↓D_lenB, ↓D_lenO, ↓D_max, ↓D_min, ↓D_ixT, ↓D_ixL, ↓D_ixS, ↓D_ixN, ↓D_ixB, ↓D_ixO, ↓D_setB, ↓D_setO, ↓D_appO, ↓D_lof, ↓D_catNN, ↓D_catNL, ↓D_catLN, ↓D_catLL, ↓D_ii, ↓D_ib, ↓D_bi, ↓D_bb, ↓BW_s, ↓OnW_s, ↓OnB_s, ↓VW_rv, ↓VW_rn, ↓VW_nx, ↓RV_rv, ↓at0, ↓at1, ↓at2, ↓at3, ↓Au_add, ↓Au_sub, ↓Au_bor, ↓Au_mul, ↓sT0, ↓sTS, ↓I1W_i, ↓I2W_i, ↓I3W_l, ↓I3W_s, ↓I3W_t, ↓I3W_n, ↓stepQ_nx, ↓stepQ_ct, ↓stepQ_bk, ↓stepQ_rt, ↓sE, ↓eg0, ↓egS, ↓st0, ↓stS, ↓true_and, ↓and_true, ↓eq_self, ↓isF_v, ↓isF_n, ↓decide_true, ↓decide_false, ↓Bool.not_true, ↓Bool.not_false, smallR_in, List.set_cons_zero, List.set_cons_succ]
      refine W_loop_rng (fun _ => numJ s lo m T) ⟨ns, _, c, _, _, g, rfl⟩ ?_ ?_
      · rintro k2 st hk2 ⟨ns, s4, i, s6, s7, g, rfl⟩
        have gl := g.le
        simp -implicitDefEqProofs -dsimp (disch := omega) only [bNumK, ↓W_dt, ↓W_fld, ↓W_meth, ↓W_make, ↓MkW_n, ↓W_popl, ↓W_setf, ↓W_augx, ↓W_asgM, ↓Gam_ncl, ↓EnW_l, ↓EnW_s, ↓EnW_n, ↓EnW_f, ↓EnW_b, ↓LG_rng, ↓LG_seq, ↓LG_enum, ↓LG_zip, ↓LG_str, ↓LG_seqR, ↓LG_enumR, ↓I3W_f, ↓I3W_b, ↓InW_s, ↓FdW_v, ↓FdW_o, ↓FdW_d, ↓InB_s, ↓D_fld, ↓D_meth, ↓D_setf, ↓SO_v, ↓SO_n, ↓SO_nf, ↓SO_d, ↓sq_f, ↓live_f, ↓live_b, ↓D_lenF, ↓D_ixF, ↓D_appF, ↓D_setF, ↓D_poplF, ↓D_lofF, ↓tp0, ↓tpS, ↓bh_f, ↓W_var, ↓W_cst, ↓W_glob, ↓W_bin, ↓W_cmp, ↓W_ix, ↓W_un, ↓W_blt, ↓W_blt2, ↓W_isi, ↓W_bits, ↓W_idx, ↓W_find, ↓W_pop, ↓W_dnew, ↓W_dix, ↓W_din, ↓W_sset, ↓D_sset, ↓W_lrg1, ↓W_lrg2, ↓W_dput, ↓StW_s, ↓ViW_i, ↓VaW_v, ↓SlW_d, ↓bh_nd, ↓OdW_s, ↓LnW_o, ↓LnW_d, ↓D_pop, ↓D_dixI, ↓D_dixS, ↓D_dinI, ↓D_dinS, ↓D_dputI, ↓D_dputS, ↓D_find, ↓D_lrg, ↓W_enum, ↓W_zip, ↓W_istr, ↓lstP_l, ↓lstP_s, ↓lstP_n, ↓lstQ_l, ↓W_revl, ↓W_revs, ↓W_sl, ↓W_bind, ↓W_partT, ↓W_partF, ↓PaW_i, ↓D_list, ↓D_tuple, ↓D_sum, ↓D_sorted, ↓D_maxl, ↓D_minl, ↓D_str, ↓D_bits, ↓D_revS, ↓D_revL, ↓D_revN, ↓seq_t, ↓seq_l, ↓seq_s, ↓seq_n, ↓seq_b, ↓seq_o, ↓ints_n, ↓ints_l, ↓inta_n, ↓inta_l, ↓inta_t, ↓W_exi, ↓W_chain, ↓W_not, ↓W_and, ↓W_or, ↓W_ife, ↓W_tup, ↓W_lst, ↓W_call, ↓W_frz, ↓W_mkbox, ↓W_app, ↓W_enil, ↓W_econs, ↓W_rng1, ↓W_rng2, ↓W_seq, ↓W_asg, ↓W_asgO, ↓W_asgT, ↓W_aug, ↓W_setix, ↓W_expr, ↓W_ret, ↓W_retN, ↓W_pass, ↓W_brk, ↓W_cont, ↓W_raise, ↓W_if, ↓W_for, ↓W_nil, ↓W_cons, ↓W_try, ↓W_ok, ↓W_exc, ↓WC_ok, ↓WC_exc, ↓WK_ok, ↓WK_exc, ↓TW_b, ↓DW_v, ↓DW_n, ↓IT_t, ↓IT_f, ↓IT_dt, ↓IT_df, IT_d, ↓IT_e1, ↓IT_e2, ↓IT_e3, ↓IT_e4, ↓IT_n, ↓IT_a, ↓SlW_v, ↓SlW_o, ↓OW_s, ↓FW_nx, ↓FW_rt, ↓FW_bk, ↓FW_ct, ↓RW_v, ↓RW_n, ↓RW_o, ↓bh_v, ↓bh_n, ↓bh_o, ↓Gam_glob, ↓D_add, ↓D_sub, ↓D_mul, ↓D_fdiv, ↓D_mod, ↓D_band, ↓D_bor, ↓D_bxor, ↓D_shl, ↓D_shr, ↓D_lt, ↓D_le, ↓D_gt, ↓D_ge, ↓D_eqi, ↓D_nei, ↓D_eqb,  ↓D_neb, ↓D_isN, ↓D_inN, ↓D_isi1, ↓D_ini1, ↓D_ist1, ↓D_int1, ↓D_isl1, ↓D_inl1, ↓D_isn1, ↓D_inn1, ↓D_isb1, ↓D_inb1, ↓D_neg, ↓D_abs, ↓D_int, ↓D_intb, ↓D_lenT, ↓D_lenL, ↓D_lenS, ↓D_lenN, ↓D_lenB, ↓D_lenO, ↓D_max, ↓D_min, ↓D_ixT, ↓D_ixL, ↓D_ixS, ↓D_ixN, ↓D_ixB, ↓D_ixO, ↓D_setB, ↓D_setO, ↓D_appO, ↓D_lof, ↓D_catNN, ↓D_catNL, ↓D_catLN, ↓D_catLL, ↓D_ii, ↓D_ib, ↓D_bi, ↓D_bb, ↓BW_s, ↓OnW_s, ↓OnB_s, ↓VW_rv, ↓VW_rn, ↓VW_nx, ↓RV_rv, ↓at0, ↓at1, ↓at2, ↓at3, ↓Au_add, ↓Au_sub, ↓Au_bor, ↓Au_mul, ↓sT0, ↓sTS, ↓I1W_i, ↓I2W_i, ↓I3W_l, ↓I3W_s, ↓I3W_t, ↓I3W_n, ↓stepQ_nx, ↓stepQ_ct, ↓stepQ_bk, ↓stepQ_rt, ↓sE, ↓eg0, ↓egS, ↓st0, ↓stS, ↓true_and, ↓and_true, ↓eq_self, ↓isF_v, ↓isF_n, ↓decide_true, ↓decide_false, ↓Bool.not_true, ↓Bool.not_false, List.length_map, map_snoc, List.set_cons_zero, List.set_cons_succ]
        refine ⟨fun h1 => ⟨fun h2 => ?_, fun _ => ⟨ns, _, _, _, _, g, rfl⟩⟩, fun _ => ⟨ns, _, _, _, _, g, rfl⟩⟩
        refine ⟨by omega, by omega, ⟨by omega, by omega⟩, ns ++ [i.fmod 4096], _, _, _, _, g.app h2 i, rfl⟩
      · rintro st ⟨ns, s4, i, s6, s7, g, rfl⟩
        simp -implicitDefEqProofs -dsimp only [↓W_dt, ↓W_fld, ↓W_meth, ↓W_make, ↓MkW_n, ↓W_popl, ↓W_setf, ↓W_augx, ↓W_asgM, ↓Gam_ncl, ↓EnW_l, ↓EnW_s, ↓EnW_n, ↓EnW_f, ↓EnW_b, ↓LG_rng, ↓LG_seq, ↓LG_enum, ↓LG_zip, ↓LG_str, ↓LG_seqR, ↓LG_enumR, ↓I3W_f, ↓I3W_b, ↓InW_s, ↓FdW_v, ↓FdW_o, ↓FdW_d, ↓InB_s, ↓D_fld, ↓D_meth, ↓D_setf, ↓SO_v, ↓SO_n, ↓SO_nf, ↓SO_d, ↓sq_f, ↓live_f, ↓live_b, ↓D_lenF, ↓D_ixF, ↓D_appF, ↓D_setF, ↓D_poplF, ↓D_lofF, ↓tp0, ↓tpS, ↓bh_f, ↓W_var, ↓W_cst, ↓W_glob, ↓W_bin, ↓W_cmp, ↓W_ix, ↓W_un, ↓W_blt, ↓W_blt2, ↓W_isi, ↓W_bits, ↓W_idx, ↓W_find, ↓W_pop, ↓W_dnew, ↓W_dix, ↓W_din, ↓W_sset, ↓D_sset, ↓W_lrg1, ↓W_lrg2, ↓W_dput, ↓StW_s, ↓ViW_i, ↓VaW_v, ↓SlW_d, ↓bh_nd, ↓OdW_s, ↓LnW_o, ↓LnW_d, ↓D_pop, ↓D_dixI, ↓D_dixS, ↓D_dinI, ↓D_dinS, ↓D_dputI, ↓D_dputS, ↓D_find, ↓D_lrg, ↓W_enum, ↓W_zip, ↓W_istr, ↓lstP_l, ↓lstP_s, ↓lstP_n, ↓lstQ_l, ↓W_revl, ↓W_revs, ↓W_sl, ↓W_bind, ↓W_partT, ↓W_partF, ↓PaW_i, ↓D_list, ↓D_tuple, ↓D_sum, ↓D_sorted, ↓D_maxl, ↓D_minl, ↓D_str, ↓D_bits, ↓D_revS, ↓D_revL, ↓D_revN, ↓seq_t, ↓seq_l, ↓seq_s, ↓seq_n, ↓seq_b, ↓seq_o, ↓ints_n, ↓ints_l, ↓inta_n, ↓inta_l, ↓inta_t, ↓W_exi, ↓W_chain, ↓W_not, ↓W_and, ↓W_or, ↓W_ife, ↓W_tup, ↓W_lst, ↓W_call, ↓W_frz, ↓W_mkbox, ↓W_app, ↓W_enil, ↓W_econs, ↓W_rng1, ↓W_rng2, ↓W_seq, ↓W_asg, ↓W_asgO, ↓W_asgT, ↓W_aug, ↓W_setix, ↓W_expr, ↓W_ret, ↓W_retN, ↓W_pass, ↓W_brk, ↓W_cont, ↓W_raise, ↓W_if, ↓W_for, ↓W_nil, ↓W_cons, ↓W_try, ↓W_ok, ↓W_exc, ↓WC_ok, ↓WC_exc, ↓WK_ok, ↓WK_exc, ↓TW_b, ↓DW_v, ↓DW_n, ↓IT_t, ↓IT_f, ↓IT_dt, ↓IT_df, IT_d, ↓IT_e1, ↓IT_e2, ↓IT_e3, ↓IT_e4, ↓IT_n, ↓IT_a, ↓SlW_v, ↓SlW_o, ↓OW_s, ↓FW_nx, ↓FW_rt, ↓FW_bk, ↓FW_ct, ↓RW_v, ↓RW_n, ↓RW_o, ↓bh_v, ↓bh_n, ↓bh_o, ↓Gam_glob, ↓D_add, ↓D_sub, ↓D_mul, ↓D_fdiv, ↓D_mod, ↓D_band, ↓D_bor, ↓D_bxor, ↓D_shl, ↓D_shr, ↓D_lt, ↓D_le, ↓D_gt, ↓D_ge, ↓D_eqi, ↓D_nei, ↓D_eqb,  ↓D_neb, ↓D_isN, ↓D_inN, ↓D_isi1, ↓D_ini1, ↓D_ist1, ↓D_int1, ↓D_isl1, ↓D_inl1, ↓D_isn1, ↓D_inn1, ↓D_isb1, ↓D_inb1, ↓D_neg, ↓D_abs, ↓D_int, ↓D_intb, ↓D_lenT, ↓D_lenL, ↓D_lenS, ↓D_lenN, ↓D_lenB, ↓D_lenO, ↓D_max, ↓D_min, ↓D_ixT, ↓D_ixL, ↓D_ixS, ↓D_ixN, ↓D_ixB, ↓D_ixO, ↓D_setB, ↓D_setO, ↓D_appO, ↓D_lof, ↓D_catNN, ↓D_catNL, ↓D_catLN, ↓D_catLL, ↓D_ii, ↓D_ib, ↓D_bi, ↓D_bb, ↓BW_s, ↓OnW_s, ↓OnB_s, ↓VW_rv, ↓VW_rn, ↓VW_nx, ↓RV_rv, ↓at0, ↓at1, ↓at2, ↓at3, ↓Au_add, ↓Au_sub, ↓Au_bor, ↓Au_mul, ↓sT0, ↓sTS, ↓I1W_i, ↓I2W_i, ↓I3W_l, ↓I3W_s, ↓I3W_t, ↓I3W_n, ↓stepQ_nx, ↓stepQ_ct, ↓stepQ_bk, ↓stepQ_rt, ↓sE, ↓eg0, ↓egS, ↓st0, ↓stS, ↓true_and, ↓and_true, ↓eq_self, ↓isF_v, ↓isF_n, ↓decide_true, ↓decide_false, ↓Bool.not_true, ↓Bool.not_false]
        exact ⟨ns, _, _, _, _, g, rfl⟩
    · have hc1 : 0 ≤ ((c * 48271 + (lo + k) * 69621 + 12345).fmod 2147483647 : Int) := Int.fmod_nonneg_of_pos _ (by omega)
      have hc2 : ((c * 48271 + (lo + k) * 69621 + 12345).fmod 2147483647 : Int) < 2147483647 := Int.fmod_lt_of_pos _ (by omega)
      simp -implicitDefEqProofs -dsimp (disch := omega) only [bNumB, ↓W_dt, ↓W_fld, ↓W_meth, ↓W_make, ↓MkW_n, ↓W_popl, ↓W_setf, ↓W_augx, ↓W_asgM, ↓Gam_ncl, ↓EnW_l, ↓EnW_s, ↓EnW_n, ↓EnW_f, ↓EnW_b, ↓LG_rng, ↓LG_seq, ↓LG_enum, ↓LG_zip, ↓LG_str, ↓LG_seqR, ↓LG_enumR, ↓I3W_f, ↓I3W_b, ↓InW_s, ↓FdW_v, ↓FdW_o, ↓FdW_d, ↓InB_s, ↓D_fld, ↓D_meth, ↓D_setf, ↓SO_v, ↓SO_n, ↓SO_nf, ↓SO_d, ↓sq_f, ↓live_f, ↓live_b, ↓D_lenF, ↓D_ixF, ↓D_appF, ↓D_setF, ↓D_poplF, ↓D_lofF, ↓tp0, ↓tpS, ↓bh_f, ↓W_var, ↓W_cst, ↓W_glob, ↓W_bin, ↓W_cmp, ↓W_ix, ↓W_un, ↓W_blt, ↓W_blt2, ↓W_isi, ↓W_bits, ↓W_idx, ↓W_find, ↓W_pop, ↓W_dnew, ↓W_dix, ↓W_din, ↓W_sset, ↓D_sset, ↓W_lrg1, ↓W_lrg2, ↓W_dput, ↓StW_s, ↓ViW_i, ↓VaW_v, ↓SlW_d, ↓bh_nd, ↓OdW_s, ↓LnW_o, ↓LnW_d, ↓D_pop, ↓D_dixI, ↓D_dixS, ↓D_dinI, ↓D_dinS, ↓D_dputI, ↓D_dputS, ↓D_find, ↓D_lrg, ↓W_enum, ↓W_zip, ↓W_istr, ↓lstP_l, ↓lstP_s, ↓lstP_n, ↓lstQ_l, ↓W_revl, ↓W_revs, ↓W_sl, ↓W_bind, ↓W_partT, ↓W_partF, ↓PaW_i, ↓D_list, ↓D_tuple, ↓D_sum, ↓D_sorted, ↓D_maxl, ↓D_minl, ↓D_str, ↓D_bits, ↓D_revS, ↓D_revL, ↓D_revN, ↓seq_t, ↓seq_l, ↓seq_s, ↓seq_n, ↓seq_b, ↓seq_o, ↓ints_n, ↓ints_l, ↓inta_n, ↓inta_l, ↓inta_t, ↓W_exi, ↓W_chain, ↓W_not, ↓W_and, ↓W_or, ↓W_ife, ↓W_tup, ↓W_lst, ↓W_call, ↓W_frz, ↓W_mkbox, ↓W_app, ↓W_enil, ↓W_econs, ↓W_rng1, ↓W_rng2, ↓W_seq, ↓W_asg, ↓W_asgO, ↓W_asgT, ↓W_aug, ↓W_setix, ↓W_expr, ↓W_ret, ↓W_retN, ↓W_pass, ↓W_brk, ↓W_cont, ↓W_raise, ↓W_if, ↓W_for, ↓W_nil, ↓W_cons, ↓W_try, ↓W_ok, ↓W_exc, ↓WC_ok, ↓WC_exc, ↓WK_ok, ↓WK_exc, ↓TW_b, ↓DW_v, ↓DW_n, ↓IT_t, ↓IT_f, ↓IT_dt, ↓IT_df, IT_d, ↓IT_e1, ↓IT_e2, ↓IT_e3, ↓IT_e4, ↓IT_n, ↓IT_a, ↓SlW_v, ↓SlW_o, ↓OW_s, ↓FW_nx, ↓FW_rt, ↓FW_bk, ↓FW_ct, ↓RW_v, ↓RW_n, ↓RW_o, ↓bh_v, ↓bh_n, ↓bh_o, ↓Gam_glob, ↓D_add, ↓D_sub, ↓D_mul, ↓D_fdiv, ↓D_mod, ↓D_band, ↓D_bor, ↓D_bxor, ↓D_shl, ↓D_shr, ↓D_lt, ↓D_le, ↓D_gt, ↓D_ge, ↓D_eqi, ↓D_nei, ↓D_eqb,  ↓D_neb, ↓D_isN, ↓D_inN, ↓D_isi1, ↓D_ini1, ↓D_ist1, ↓D_int1, ↓D_isl1, ↓D_inl1, ↓D_isn1, ↓D_inn1, ↓D_isb1, ↓D_inb1, ↓D_neg, ↓D_abs, ↓D_int, ↓D_intb, ↓D_lenT, ↓D_lenL, ↓D_lenS, ↓D_lenN, ↓D_lenB, ↓D_lenO, ↓D_max, ↓D_min, ↓D_ixT, ↓D_ixL, ↓D_ixS, ↓D_ixN, ↓D_ixB, ↓D_ixO, ↓D_setB, ↓D_setO, ↓D_appO, ↓D_lof, ↓D_catNN, ↓D_catNL, ↓D_catLN, ↓D_catLL, ↓D_ii, ↓D_ib, ↓D_bi, ↓D_bb, ↓BW_s, ↓OnW_s, ↓OnB_s, ↓VW_rv, ↓VW_rn, ↓VW_nx, ↓RV_rv, ↓at0, ↓at1, ↓at2, ↓at3, ↓Au_add, ↓Au_sub, ↓Au_bor, ↓Au_mul, ↓sT0, ↓sTS, ↓I1W_i, ↓I2W_i, ↓I3W_l, ↓I3W_s, ↓I3W_t, ↓I3W_n, ↓stepQ_nx, ↓stepQ_ct, ↓stepQ_bk, ↓stepQ_rt, ↓sE, ↓eg0, ↓egS, ↓st0, ↓stS, ↓true_and, ↓and_true, ↓eq_self, ↓isF_v, ↓isF_n, ↓decide_true, ↓decide_false, ↓Bool.not_true, ↓Bool.not_false, List.length_map, map_snoc, mulOk_r, List.set_cons_zero, List.set_cons_succ]
      refine ⟨fun h2 => ?_, fun _ => ⟨ns, _, _, _, _, g, rfl⟩⟩
      refine ⟨by omega, ⟨by omega, by omega⟩, by omega, by omega, by omega, ns ++ [_], _, _, _, _, g.app h2 _, rfl⟩
  · rintro st ⟨ns, s4, s5, s6, s7, g, rfl⟩
    simp -implicitDefEqProofs -dsimp only [bNumT, ↓W_dt, ↓W_fld, ↓W_meth, ↓W_make, ↓MkW_n, ↓W_popl, ↓W_setf, ↓W_augx, ↓W_asgM, ↓Gam_ncl, ↓EnW_l, ↓EnW_s, ↓EnW_n, ↓EnW_f, ↓EnW_b, ↓LG_rng, ↓LG_seq, ↓LG_enum, ↓LG_zip, ↓LG_str, ↓LG_seqR, ↓LG_enumR, ↓I3W_f, ↓I3W_b, ↓InW_s, ↓FdW_v, ↓FdW_o, ↓FdW_d, ↓InB_s, ↓D_fld, ↓D_meth, ↓D_setf, ↓SO_v, ↓SO_n, ↓SO_nf, ↓SO_d, ↓sq_f, ↓live_f, ↓live_b, ↓D_lenF, ↓D_ixF, ↓D_appF, ↓D_setF, ↓D_poplF, ↓D_lofF, ↓tp0, ↓tpS, ↓bh_f, ↓W_var, ↓W_cst, ↓W_glob, ↓W_bin, ↓W_cmp, ↓W_ix, ↓W_un, ↓W_blt, ↓W_blt2, ↓W_isi, ↓W_bits, ↓W_idx, ↓W_find, ↓W_pop, ↓W_dnew, ↓W_dix, ↓W_din, ↓W_sset, ↓D_sset, ↓W_lrg1, ↓W_lrg2, ↓W_dput, ↓StW_s, ↓ViW_i, ↓VaW_v, ↓SlW_d, ↓bh_nd, ↓OdW_s, ↓LnW_o, ↓LnW_d, ↓D_pop, ↓D_dixI, ↓D_dixS, ↓D_dinI, ↓D_dinS, ↓D_dputI, ↓D_dputS, ↓D_find, ↓D_lrg, ↓W_enum, ↓W_zip, ↓W_istr, ↓lstP_l, ↓lstP_s, ↓lstP_n, ↓lstQ_l, ↓W_revl, ↓W_revs, ↓W_sl, ↓W_bind, ↓W_partT, ↓W_partF, ↓PaW_i, ↓D_list, ↓D_tuple, ↓D_sum, ↓D_sorted, ↓D_maxl, ↓D_minl, ↓D_str, ↓D_bits, ↓D_revS, ↓D_revL, ↓D_revN, ↓seq_t, ↓seq_l, ↓seq_s, ↓seq_n, ↓seq_b, ↓seq_o, ↓ints_n, ↓ints_l, ↓inta_n, ↓inta_l, ↓inta_t, ↓W_exi, ↓W_chain, ↓W_not, ↓W_and, ↓W_or, ↓W_ife, ↓W_tup, ↓W_lst, ↓W_call, ↓W_frz, ↓W_mkbox, ↓W_app, ↓W_enil, ↓W_econs, ↓W_rng1, ↓W_rng2, ↓W_seq, ↓W_asg, ↓W_asgO, ↓W_asgT, ↓W_aug, ↓W_setix, ↓W_expr, ↓W_ret, ↓W_retN, ↓W_pass, ↓W_brk, ↓W_cont, ↓W_raise, ↓W_if, ↓W_for, ↓W_nil, ↓W_cons, ↓W_try, ↓W_ok, ↓W_exc, ↓WC_ok, ↓WC_exc, ↓WK_ok, ↓WK_exc, ↓TW_b, ↓DW_v, ↓DW_n, ↓IT_t, ↓IT_f, ↓IT_dt, ↓IT_df, IT_d, ↓IT_e1, ↓IT_e2, ↓IT_e3, ↓IT_e4, ↓IT_n, ↓IT_a, ↓SlW_v, ↓SlW_o, ↓OW_s, ↓FW_nx, ↓FW_rt, ↓FW_bk, ↓FW_ct, ↓RW_v, ↓RW_n, ↓RW_o, ↓bh_v, ↓bh_n, ↓bh_o, ↓Gam_glob, ↓D_add, ↓D_sub, ↓D_mul, ↓D_fdiv, ↓D_mod, ↓D_band, ↓D_bor, ↓D_bxor, ↓D_shl, ↓D_shr, ↓D_lt, ↓D_le, ↓D_gt, ↓D_ge, ↓D_eqi, ↓D_nei, ↓D_eqb,  ↓D_neb, ↓D_isN, ↓D_inN, ↓D_isi1, ↓D_ini1, ↓D_ist1, ↓D_int1, ↓D_isl1, ↓D_inl1, ↓D_isn1, ↓D_inn1, ↓D_isb1, ↓D_inb1, ↓D_neg, ↓D_abs, ↓D_int, ↓D_intb, ↓D_lenT, ↓D_lenL, ↓D_lenS, ↓D_lenN, ↓D_lenB, ↓D_lenO, ↓D_max, ↓D_min, ↓D_ixT, ↓D_ixL, ↓D_ixS, ↓D_ixN, ↓D_ixB, ↓D_ixO, ↓D_setB, ↓D_setO, ↓D_appO, ↓D_lof, ↓D_catNN, ↓D_catNL, ↓D_catLN, ↓D_catLL, ↓D_ii, ↓D_ib, ↓D_bi, ↓D_bb, ↓BW_s, ↓OnW_s, ↓OnB_s, ↓VW_rv, ↓VW_rn, ↓VW_nx, ↓RV_rv, ↓at0, ↓at1, ↓at2, ↓at3, ↓Au_add, ↓Au_sub, ↓Au_bor, ↓Au_mul, ↓sT0, ↓sTS, ↓I1W_i, ↓I2W_i, ↓I3W_l, ↓I3W_s, ↓I3W_t, ↓I3W_n, ↓stepQ_nx, ↓stepQ_ct, ↓stepQ_bk, ↓stepQ_rt, ↓sE, ↓eg0, ↓egS, ↓st0, ↓stS, ↓true_and, ↓and_true, ↓eq_self, ↓isF_v, ↓isF_n, ↓decide_true, ↓decide_false, ↓Bool.not_true, ↓Bool.not_false]
    exact ⟨ns, g, rfl⟩

/-! the pool -/
def bPool (f : Nat) : Ss :=
  (.cons (.ret (.mkbox (.lst (.cons (.bin .add (.call f (.cons (.var 0) (.cons (.cst (.int 0)) (.cons (.cst (.int 240)) .nil)))) (.lst (.cons (.cst (.int 5)) .nil))) (.cons (.cst (.int 0)) .nil)))))
  .nil)
theorem W_callE {Γ : Gm} {p : Prg} {k f : Nat} {r : CRes} {ds : List Dt} {env : List Sl} {T : List Ob} {ro : Bool} : True := trivial
theorem WC_mono {r : CRes} {Q Q' : Hd → List Ob → Prop} {X X'} (h : WC r Q X) (hq : ∀ a st, Q a st → Q' a st) (hx : ∀ a st, X a st → X' a st) : WC r Q' X' := by
  cases r with
  | ok a st => exact hq a st h
  | exc c st => exact hx c st h
  | stuck => exact h
theorem pool_run {p : Prg} {f g : Nat} (hf : p.fn f = ⟨1, bPool g⟩) (ha : p.ar f = 1) (hg : p.fn g = ⟨8, bNum⟩) (hga : p.ar g = 3) {k : Nat} (hk : 1 < k) {s : List Int} (hs : s.length ≤ 63) :
    ∃ ns, GP ns ∧ run p k f false [.slst (s.map .int)] [] = .ok (.val (.box 0)) [pl ns 0] := by
  have zl : sizeLine = 16777216 := rfl
  obtain ⟨ns, g1, g2⟩ : ∃ ns, GN ns 240 ∧ run p (k - 1) g false [.slst (s.map .int), .int 0, .int 240] [] = .ok (.new (ns.map .int)) [] := by
    have h := num_run hg hga (k := k - 1) (by omega) hs (lo := 0) (m := 240) (by omega) (by omega) (by omega) (by omega) []
    generalize run p (k - 1) g false [.slst (s.map .int), .int 0, .int 240] [] = r at h ⊢
    match r with
    | .ok h' T' => obtain ⟨ns, a, rfl, rfl⟩ := h; exact ⟨ns, a, rfl⟩
    | .exc _ _ => exact h.elim
    | .stuck => exact h.elim
  have gl := g1.le
  refine ⟨ns ++ [5], ⟨by simp, by simp only [List.length_append, List.length_cons, List.length_nil]; omega, fun x hx => ?_⟩, ?_⟩
  · rcases List.mem_append.1 hx with h1 | h1
    · exact g1.val x h1
    · rw [List.mem_singleton.1 h1]; omega
  · refine WC_eq (WC_run (by rw [ha]; rfl) hf (by omega) ?_)
    simp -implicitDefEqProofs -dsimp (disch := omega) only [bPool, List.map, List.length, List.replicate, List.cons_append, List.nil_append, ↓W_dt, ↓W_fld, ↓W_meth, ↓W_make, ↓MkW_n, ↓W_popl, ↓W_setf, ↓W_augx, ↓W_asgM, ↓Gam_ncl, ↓EnW_l, ↓EnW_s, ↓EnW_n, ↓EnW_f, ↓EnW_b, ↓LG_rng, ↓LG_seq, ↓LG_enum, ↓LG_zip, ↓LG_str, ↓LG_seqR, ↓LG_enumR, ↓I3W_f, ↓I3W_b, ↓InW_s, ↓FdW_v, ↓FdW_o, ↓FdW_d, ↓InB_s, ↓D_fld, ↓D_meth, ↓D_setf, ↓SO_v, ↓SO_n, ↓SO_nf, ↓SO_d, ↓sq_f, ↓live_f, ↓live_b, ↓D_lenF, ↓D_ixF, ↓D_appF, ↓D_setF, ↓D_poplF, ↓D_lofF, ↓tp0, ↓tpS, ↓bh_f, ↓W_var, ↓W_cst, ↓W_glob, ↓W_bin, ↓W_cmp, ↓W_ix, ↓W_un, ↓W_blt, ↓W_blt2, ↓W_isi, ↓W_bits, ↓W_idx, ↓W_find, ↓W_pop, ↓W_dnew, ↓W_dix, ↓W_din, ↓W_sset, ↓D_sset, ↓W_lrg1, ↓W_lrg2, ↓W_dput, ↓StW_s, ↓ViW_i, ↓VaW_v, ↓SlW_d, ↓bh_nd, ↓OdW_s, ↓LnW_o, ↓LnW_d, ↓D_pop, ↓D_dixI, ↓D_dixS, ↓D_dinI, ↓D_dinS, ↓D_dputI, ↓D_dputS, ↓D_find, ↓D_lrg, ↓W_enum, ↓W_zip, ↓W_istr, ↓lstP_l, ↓lstP_s, ↓lstP_n, ↓lstQ_l, ↓W_revl, ↓W_revs, ↓W_sl, ↓W_bind, ↓W_partT, ↓W_partF, ↓PaW_i, ↓D_list, ↓D_tuple, ↓D_sum, ↓D_sorted, ↓D_maxl, ↓D_minl, ↓D_str, ↓D_bits, ↓D_revS, ↓D_revL, ↓D_revN, ↓seq_t, ↓seq_l, ↓seq_s, ↓seq_n, ↓seq_b, ↓seq_o, ↓ints_n, ↓ints_l, ↓inta_n, ↓inta_l, ↓inta_t, ↓W_exi, ↓W_chain, ↓W_not, ↓W_and, ↓W_or, ↓W_ife, ↓W_tup, ↓W_lst, ↓W_call, ↓W_frz, ↓W_mkbox, ↓W_app, ↓W_enil, ↓W_econs, ↓W_rng1, ↓W_rng2, ↓W_seq, ↓W_asg, ↓W_asgO, ↓W_asgT, ↓W_aug, ↓W_setix, ↓W_expr, ↓W_ret, ↓W_retN, ↓W_pass, ↓W_brk, ↓W_cont, ↓W_raise, ↓W_if, ↓W_for, ↓W_nil, ↓W_cons, ↓W_try, ↓W_ok, ↓W_exc, ↓WC_ok, ↓WC_exc, ↓WK_ok, ↓WK_exc, ↓TW_b, ↓DW_v, ↓DW_n, ↓IT_t, ↓IT_f, ↓IT_dt, ↓IT_df, IT_d, ↓IT_e1, ↓IT_e2, ↓IT_e3, ↓IT_e4, ↓IT_n, ↓IT_a, ↓SlW_v, ↓SlW_o, ↓OW_s, ↓FW_nx, ↓FW_rt, ↓FW_bk, ↓FW_ct, ↓RW_v, ↓RW_n, ↓RW_o, ↓bh_v, ↓bh_n, ↓bh_o, ↓Gam_glob, ↓D_add, ↓D_sub, ↓D_mul, ↓D_fdiv, ↓D_mod, ↓D_band, ↓D_bor, ↓D_bxor, ↓D_shl, ↓D_shr, ↓D_lt, ↓D_le, ↓D_gt, ↓D_ge, ↓D_eqi, ↓D_nei, ↓D_eqb,  ↓D_neb, ↓D_isN, ↓D_inN, ↓D_isi1, ↓D_ini1, ↓D_ist1, ↓D_int1, ↓D_isl1, ↓D_inl1, ↓D_isn1, ↓D_inn1, ↓D_isb1, ↓D_inb1, ↓D_neg, ↓D_abs, ↓D_int, ↓D_intb, ↓D_lenT, ↓D_lenL, ↓D_lenS, ↓D_lenN, ↓D_lenB, ↓D_lenO, ↓D_max, ↓D_min, ↓D_ixT, ↓D_ixL, ↓D_ixS, ↓D_ixN, ↓D_ixB, ↓D_ixO, ↓D_setB, ↓D_setO, ↓D_appO, ↓D_lof, ↓D_catNN, ↓D_catNL, ↓D_catLN, ↓D_catLL, ↓D_ii, ↓D_ib, ↓D_bi, ↓D_bb, ↓BW_s, ↓OnW_s, ↓OnB_s, ↓VW_rv, ↓VW_rn, ↓VW_nx, ↓RV_rv, ↓at0, ↓at1, ↓at2, ↓at3, ↓Au_add, ↓Au_sub, ↓Au_bor, ↓Au_mul, ↓sT0, ↓sTS, ↓I1W_i, ↓I2W_i, ↓I3W_l, ↓I3W_s, ↓I3W_t, ↓I3W_n, ↓stepQ_nx, ↓stepQ_ct, ↓stepQ_bk, ↓stepQ_rt, ↓sE, ↓eg0, ↓egS, ↓st0, ↓stS, ↓true_and, ↓and_true, ↓eq_self, ↓isF_v, ↓isF_n, ↓decide_true, ↓decide_false, ↓Bool.not_true, ↓Bool.not_false, g2, List.length_map]
    exact ⟨by omega, by omega, by omega, by rw [pl, List.map_append]; rfl⟩
def bIsI : Ss := (.cons (.ret (.and (.isi (.var 0) .int) (.not (.isi (.var 0) .bool))))
  .nil)
def bInt (f : Nat) : Ss := (.cons (.ret (.and (.call f (.cons (.var 0) .nil)) (.cmp .eq (.var 0) (.var 1))))
  .nil)
theorem isI_run {p : Prg} {f : Nat} (hf : p.fn f = ⟨1, bIsI⟩) (ha : p.ar f = 1) {k : Nat} (hk : 0 < k) (i : Int) (ro : Bool) (T : List Ob) :
    run p k f ro [.int i] T = .ok (.val (.bl true)) T := by
  refine WC_eq (WC_run (by rw [ha]; rfl) hf hk ?_)
  simp -implicitDefEqProofs -dsimp only [bIsI, List.map, List.length, List.replicate, List.cons_append, List.nil_append, ↓W_dt, ↓W_fld, ↓W_meth, ↓W_make, ↓MkW_n, ↓W_popl, ↓W_setf, ↓W_augx, ↓W_asgM, ↓Gam_ncl, ↓EnW_l, ↓EnW_s, ↓EnW_n, ↓EnW_f, ↓EnW_b, ↓LG_rng, ↓LG_seq, ↓LG_enum, ↓LG_zip, ↓LG_str, ↓LG_seqR, ↓LG_enumR, ↓I3W_f, ↓I3W_b, ↓InW_s, ↓FdW_v, ↓FdW_o, ↓FdW_d, ↓InB_s, ↓D_fld, ↓D_meth, ↓D_setf, ↓SO_v, ↓SO_n, ↓SO_nf, ↓SO_d, ↓sq_f, ↓live_f, ↓live_b, ↓D_lenF, ↓D_ixF, ↓D_appF, ↓D_setF, ↓D_poplF, ↓D_lofF, ↓tp0, ↓tpS, ↓bh_f, ↓W_var, ↓W_cst, ↓W_glob, ↓W_bin, ↓W_cmp, ↓W_ix, ↓W_un, ↓W_blt, ↓W_blt2, ↓W_isi, ↓W_bits, ↓W_idx, ↓W_find, ↓W_pop, ↓W_dnew, ↓W_dix, ↓W_din, ↓W_sset, ↓D_sset, ↓W_lrg1, ↓W_lrg2, ↓W_dput, ↓StW_s, ↓ViW_i, ↓VaW_v, ↓SlW_d, ↓bh_nd, ↓OdW_s, ↓LnW_o, ↓LnW_d, ↓D_pop, ↓D_dixI, ↓D_dixS, ↓D_dinI, ↓D_dinS, ↓D_dputI, ↓D_dputS, ↓D_find, ↓D_lrg, ↓W_enum, ↓W_zip, ↓W_istr, ↓lstP_l, ↓lstP_s, ↓lstP_n, ↓lstQ_l, ↓W_revl, ↓W_revs, ↓W_sl, ↓W_bind, ↓W_partT, ↓W_partF, ↓PaW_i, ↓D_list, ↓D_tuple, ↓D_sum, ↓D_sorted, ↓D_maxl, ↓D_minl, ↓D_str, ↓D_bits, ↓D_revS, ↓D_revL, ↓D_revN, ↓seq_t, ↓seq_l, ↓seq_s, ↓seq_n, ↓seq_b, ↓seq_o, ↓ints_n, ↓ints_l, ↓inta_n, ↓inta_l, ↓inta_t, ↓W_exi, ↓W_chain, ↓W_not, ↓W_and, ↓W_or, ↓W_ife, ↓W_tup, ↓W_lst, ↓W_call, ↓W_frz, ↓W_mkbox, ↓W_app, ↓W_enil, ↓W_econs, ↓W_rng1, ↓W_rng2, ↓W_seq, ↓W_asg, ↓W_asgO, ↓W_asgT, ↓W_aug, ↓W_setix, ↓W_expr, ↓W_ret, ↓W_retN, ↓W_pass, ↓W_brk, ↓W_cont, ↓W_raise, ↓W_if, ↓W_for, ↓W_nil, ↓W_cons, ↓W_try, ↓W_ok, ↓W_exc, ↓WC_ok, ↓WC_exc, ↓WK_ok, ↓WK_exc, ↓TW_b, ↓DW_v, ↓DW_n, ↓IT_t, ↓IT_f, ↓IT_dt, ↓IT_df, IT_d, ↓IT_e1, ↓IT_e2, ↓IT_e3, ↓IT_e4, ↓IT_n, ↓IT_a, ↓SlW_v, ↓SlW_o, ↓OW_s, ↓FW_nx, ↓FW_rt, ↓FW_bk, ↓FW_ct, ↓RW_v, ↓RW_n, ↓RW_o, ↓bh_v, ↓bh_n, ↓bh_o, ↓Gam_glob, ↓D_add, ↓D_sub, ↓D_mul, ↓D_fdiv, ↓D_mod, ↓D_band, ↓D_bor, ↓D_bxor, ↓D_shl, ↓D_shr, ↓D_lt, ↓D_le, ↓D_gt, ↓D_ge, ↓D_eqi, ↓D_nei, ↓D_eqb,  ↓D_neb, ↓D_isN, ↓D_inN, ↓D_isi1, ↓D_ini1, ↓D_ist1, ↓D_int1, ↓D_isl1, ↓D_inl1, ↓D_isn1, ↓D_inn1, ↓D_isb1, ↓D_inb1, ↓D_neg, ↓D_abs, ↓D_int, ↓D_intb, ↓D_lenT, ↓D_lenL, ↓D_lenS, ↓D_lenN, ↓D_lenB, ↓D_lenO, ↓D_max, ↓D_min, ↓D_ixT, ↓D_ixL, ↓D_ixS, ↓D_ixN, ↓D_ixB, ↓D_ixO, ↓D_setB, ↓D_setO, ↓D_appO, ↓D_lof, ↓D_catNN, ↓D_catNL, ↓D_catLN, ↓D_catLL, ↓D_ii, ↓D_ib, ↓D_bi, ↓D_bb, ↓BW_s, ↓OnW_s, ↓OnB_s, ↓VW_rv, ↓VW_rn, ↓VW_nx, ↓RV_rv, ↓at0, ↓at1, ↓at2, ↓at3, ↓Au_add, ↓Au_sub, ↓Au_bor, ↓Au_mul, ↓sT0, ↓sTS, ↓I1W_i, ↓I2W_i, ↓I3W_l, ↓I3W_s, ↓I3W_t, ↓I3W_n, ↓stepQ_nx, ↓stepQ_ct, ↓stepQ_bk, ↓stepQ_rt, ↓sE, ↓eg0, ↓egS, ↓st0, ↓stS, ↓true_and, ↓and_true, ↓eq_self, ↓isF_v, ↓isF_n, ↓decide_true, ↓decide_false, ↓Bool.not_true, ↓Bool.not_false, Bool.not_false]
theorem int_run {p : Prg} {f g : Nat} (hf : p.fn f = ⟨2, bInt g⟩) (ha : p.ar f = 2) (hg : p.fn g = ⟨1, bIsI⟩) (hga : p.ar g = 1) {k : Nat} (hk : 1 < k) (i j : Int) (ro : Bool) (T : List Ob) :
    run p k f ro [.int i, .int j] T = .ok (.val (.bl (decide (i = j)))) T := by
  refine WC_eq (WC_run (by rw [ha]; rfl) hf (by omega) ?_)
  have h := isI_run hg hga (k := k - 1) (by omega) i ro T
  simp -implicitDefEqProofs -dsimp only [bInt, List.map, List.length, List.replicate, List.cons_append, List.nil_append, ↓W_dt, ↓W_fld, ↓W_meth, ↓W_make, ↓MkW_n, ↓W_popl, ↓W_setf, ↓W_augx, ↓W_asgM, ↓Gam_ncl, ↓EnW_l, ↓EnW_s, ↓EnW_n, ↓EnW_f, ↓EnW_b, ↓LG_rng, ↓LG_seq, ↓LG_enum, ↓LG_zip, ↓LG_str, ↓LG_seqR, ↓LG_enumR, ↓I3W_f, ↓I3W_b, ↓InW_s, ↓FdW_v, ↓FdW_o, ↓FdW_d, ↓InB_s, ↓D_fld, ↓D_meth, ↓D_setf, ↓SO_v, ↓SO_n, ↓SO_nf, ↓SO_d, ↓sq_f, ↓live_f, ↓live_b, ↓D_lenF, ↓D_ixF, ↓D_appF, ↓D_setF, ↓D_poplF, ↓D_lofF, ↓tp0, ↓tpS, ↓bh_f, ↓W_var, ↓W_cst, ↓W_glob, ↓W_bin, ↓W_cmp, ↓W_ix, ↓W_un, ↓W_blt, ↓W_blt2, ↓W_isi, ↓W_bits, ↓W_idx, ↓W_find, ↓W_pop, ↓W_dnew, ↓W_dix, ↓W_din, ↓W_sset, ↓D_sset, ↓W_lrg1, ↓W_lrg2, ↓W_dput, ↓StW_s, ↓ViW_i, ↓VaW_v, ↓SlW_d, ↓bh_nd, ↓OdW_s, ↓LnW_o, ↓LnW_d, ↓D_pop, ↓D_dixI, ↓D_dixS, ↓D_dinI, ↓D_dinS, ↓D_dputI, ↓D_dputS, ↓D_find, ↓D_lrg, ↓W_enum, ↓W_zip, ↓W_istr, ↓lstP_l, ↓lstP_s, ↓lstP_n, ↓lstQ_l, ↓W_revl, ↓W_revs, ↓W_sl, ↓W_bind, ↓W_partT, ↓W_partF, ↓PaW_i, ↓D_list, ↓D_tuple, ↓D_sum, ↓D_sorted, ↓D_maxl, ↓D_minl, ↓D_str, ↓D_bits, ↓D_revS, ↓D_revL, ↓D_revN, ↓seq_t, ↓seq_l, ↓seq_s, ↓seq_n, ↓seq_b, ↓seq_o, ↓ints_n, ↓ints_l, ↓inta_n, ↓inta_l, ↓inta_t, ↓W_exi, ↓W_chain, ↓W_not, ↓W_and, ↓W_or, ↓W_ife, ↓W_tup, ↓W_lst, ↓W_call, ↓W_frz, ↓W_mkbox, ↓W_app, ↓W_enil, ↓W_econs, ↓W_rng1, ↓W_rng2, ↓W_seq, ↓W_asg, ↓W_asgO, ↓W_asgT, ↓W_aug, ↓W_setix, ↓W_expr, ↓W_ret, ↓W_retN, ↓W_pass, ↓W_brk, ↓W_cont, ↓W_raise, ↓W_if, ↓W_for, ↓W_nil, ↓W_cons, ↓W_try, ↓W_ok, ↓W_exc, ↓WC_ok, ↓WC_exc, ↓WK_ok, ↓WK_exc, ↓TW_b, ↓DW_v, ↓DW_n, ↓IT_t, ↓IT_f, ↓IT_dt, ↓IT_df, IT_d, ↓IT_e1, ↓IT_e2, ↓IT_e3, ↓IT_e4, ↓IT_n, ↓IT_a, ↓SlW_v, ↓SlW_o, ↓OW_s, ↓FW_nx, ↓FW_rt, ↓FW_bk, ↓FW_ct, ↓RW_v, ↓RW_n, ↓RW_o, ↓bh_v, ↓bh_n, ↓bh_o, ↓Gam_glob, ↓D_add, ↓D_sub, ↓D_mul, ↓D_fdiv, ↓D_mod, ↓D_band, ↓D_bor, ↓D_bxor, ↓D_shl, ↓D_shr, ↓D_lt, ↓D_le, ↓D_gt, ↓D_ge, ↓D_eqi, ↓D_nei, ↓D_eqb,  ↓D_neb, ↓D_isN, ↓D_inN, ↓D_isi1, ↓D_ini1, ↓D_ist1, ↓D_int1, ↓D_isl1, ↓D_inl1, ↓D_isn1, ↓D_inn1, ↓D_isb1, ↓D_inb1, ↓D_neg, ↓D_abs, ↓D_int, ↓D_intb, ↓D_lenT, ↓D_lenL, ↓D_lenS, ↓D_lenN, ↓D_lenB, ↓D_lenO, ↓D_max, ↓D_min, ↓D_ixT, ↓D_ixL, ↓D_ixS, ↓D_ixN, ↓D_ixB, ↓D_ixO, ↓D_setB, ↓D_setO, ↓D_appO, ↓D_lof, ↓D_catNN, ↓D_catNL, ↓D_catLN, ↓D_catLL, ↓D_ii, ↓D_ib, ↓D_bi, ↓D_bb, ↓BW_s, ↓OnW_s, ↓OnB_s, ↓VW_rv, ↓VW_rn, ↓VW_nx, ↓RV_rv, ↓at0, ↓at1, ↓at2, ↓at3, ↓Au_add, ↓Au_sub, ↓Au_bor, ↓Au_mul, ↓sT0, ↓sTS, ↓I1W_i, ↓I2W_i, ↓I3W_l, ↓I3W_s, ↓I3W_t, ↓I3W_n, ↓stepQ_nx, ↓stepQ_ct, ↓stepQ_bk, ↓stepQ_rt, ↓sE, ↓eg0, ↓egS, ↓st0, ↓stS, ↓true_and, ↓and_true, ↓eq_self, ↓isF_v, ↓isF_n, ↓decide_true, ↓decide_false, ↓Bool.not_true, ↓Bool.not_false, h]
end EV
namespace EV
open PySem PySem.Spec PyProof.Rows L2
/-! comprehensions of one own name -/
def CG (Γ : Gm) (elt : E) (tg : Tg) (cond : E) (own : List Nat) (v : Itv) (st1 : Sta) (Q : Hd → Sta → Prop) (X : Nat → Sta → Prop) (tok : Tok Q) : Prop := ownFree own st1.env = true ∧
    W (v.guard (fun st0 => (loopC v own tg (fun s => (evE Γ cond s).truth.noexc) (fun s => (evE Γ elt s).dt.noexc) (v.len st0) 0 [] st0).bind fun ds st2 => .ok (.new ds) { st2 with env := putBack own st0.env st2.env }) st1) Q X
theorem W_comp (Γ : Gm) (env : List Sl) (T : List Ob) (ro : Bool) (elt : E) (it : It) (tg : Tg) (cond : E) (own : List Nat) (Q X) : W (evE Γ (.comp elt it tg cond own) ⟨env, T, ro⟩) Q X = W (evI Γ it ⟨env, T, ro⟩) (fun v st1 => CG Γ elt tg cond own v st1 Q X ⟨⟩) X := by
  simp only [evE, W_bind]
  congr 1
  funext v st1
  show W (if ownFree own st1.env = true then _ else .stuck) Q X = _
  rw [W_dite]
  rfl
theorem CG_n (Γ : Gm) (elt tg cond own v st1 Q X tok) (h : v.isRo = false) : CG Γ elt tg cond own v st1 Q X tok = CW Γ elt tg cond own v st1 Q X ⟨⟩ := by
  obtain ⟨env, T, ro⟩ := st1
  unfold CG CW
  rw [W_guard, h]
  simp only [Bool.false_eq_true, if_false]
  rw [W_bind]
  rfl
theorem CG_rng (Γ : Gm) (elt tg cond own lo n st1 Q X tok) : CG Γ elt tg cond own (.rng lo n) st1 Q X tok = CW Γ elt tg cond own (.rng lo n) st1 Q X ⟨⟩ := CG_n _ _ _ _ _ _ _ _ _ _ rfl
theorem CG_seq (Γ : Gm) (elt tg cond own h st1 Q X tok) : CG Γ elt tg cond own (.seq h) st1 Q X tok = CW Γ elt tg cond own (.seq h) st1 Q X ⟨⟩ := CG_n _ _ _ _ _ _ _ _ _ _ rfl
theorem CG_enum (Γ : Gm) (elt tg cond own h st1 Q X tok) : CG Γ elt tg cond own (.enum h) st1 Q X tok = CW Γ elt tg cond own (.enum h) st1 Q X ⟨⟩ := CG_n _ _ _ _ _ _ _ _ _ _ rfl
theorem CG_zip (Γ : Gm) (elt tg cond own h g st1 Q X tok) : CG Γ elt tg cond own (.zip h g) st1 Q X tok = CW Γ elt tg cond own (.zip h g) st1 Q X ⟨⟩ := CG_n _ _ _ _ _ _ _ _ _ _ rfl
theorem CG_str (Γ : Gm) (elt tg cond own h st1 Q X tok) : CG Γ elt tg cond own (.str h) st1 Q X tok = CW Γ elt tg cond own (.str h) st1 Q X ⟨⟩ := CG_n _ _ _ _ _ _ _ _ _ _ rfl
theorem CG_ro (Γ : Gm) (elt tg cond own v env T ro Q X tok) (h : v.isRo = true) : CG Γ elt tg cond own v ⟨env, T, ro⟩ Q X tok = CW Γ elt tg cond own v ⟨env, T, true⟩ (fun h s => Q h ⟨s.env, s.S, ro⟩) (fun c s => X c ⟨s.env, s.S, ro⟩) ⟨⟩ := by
  unfold CG CW
  rw [W_guard, h]
  simp only [if_true]
  rw [W_bind]
  rfl
theorem CG_seqR (Γ : Gm) (elt tg cond own ds env T ro Q X tok) : CG Γ elt tg cond own (.seqR ds) ⟨env, T, ro⟩ Q X tok = CW Γ elt tg cond own (.seqR ds) ⟨env, T, true⟩ (fun h s => Q h ⟨s.env, s.S, ro⟩) (fun c s => X c ⟨s.env, s.S, ro⟩) ⟨⟩ := CG_ro _ _ _ _ _ _ _ _ _ _ _ _ rfl
theorem CG_enumR (Γ : Gm) (elt tg cond own ds env T ro Q X tok) : CG Γ elt tg cond own (.enumR ds) ⟨env, T, ro⟩ Q X tok = CW Γ elt tg cond own (.enumR ds) ⟨env, T, true⟩ (fun h s => Q h ⟨s.env, s.S, ro⟩) (fun c s => X c ⟨s.env, s.S, ro⟩) ⟨⟩ := CG_ro _ _ _ _ _ _ _ _ _ _ _ _ rfl
theorem W_noexc {α : Type} (r : Res α) (Q X) : W r.noexc Q X = W r Q (fun _ _ => False) := by cases r <;> rfl
structure Items (v : Itv) (ds : List Dt) : Prop where
  at_ : ∀ s k, v.at s k = some ds[k]?
  len : ∀ s, v.len s = ds.length
theorem items_l (ds : List Dt) : Items (.seq (.val (.lst ds))) ds := ⟨fun _ _ => rfl, fun _ => rfl⟩
theorem items_s (ds : List Dt) : Items (.seq (.val (.slst ds))) ds := ⟨fun _ _ => rfl, fun _ => rfl⟩
theorem items_t (ds : List Dt) : Items (.seq (.val (.tup ds))) ds := ⟨fun _ _ => rfl, fun _ => rfl⟩
theorem items_R (ds : List Dt) : Items (.seqR ds) ds := ⟨fun _ _ => rfl, fun _ => rfl⟩
def rngD (lo : Int) (n : Nat) : List Dt := (List.range n).map fun (k : Nat) => Dt.int (lo + k)
theorem rngD_get (lo : Int) (n k : Nat) : (rngD lo n)[k]? = if k < n then some (.int (lo + k)) else none := by
  unfold rngD
  rw [List.getElem?_map]
  by_cases h : k < n
  · rw [List.getElem?_range h, if_pos h]; rfl
  · rw [if_neg h, List.getElem?_eq_none (by simp; omega)]; rfl
theorem rngD_len (lo : Int) (n : Nat) : (rngD lo n).length = n := by unfold rngD; simp
theorem items_r (lo : Int) (n : Nat) : Items (.rng lo n) (rngD lo n) := ⟨fun s k => by rw [rngD_get]; rfl, fun _ => by unfold rngD; simp; rfl⟩
theorem W_loopC {Γ : Gm} {v : Itv} {ds : List Dt} (hv : Items v ds) {i : Nat} {cond elt : E} {env : List Sl} {ro : Bool} (I : Nat → List Dt → List Ob → Prop) {Q : List Dt → Sta → Prop} {X : Nat → Sta → Prop}
    (hs : ∀ k acc T d, ds[k]? = some d → I k acc T → W (evE Γ cond ⟨env.set i (.val d), T, ro⟩) (fun h s2 => TW h fun b => IT b (W (evE Γ elt s2) (fun h s3 => DW h fun x => ∃ T', s3 = ⟨env.set i (.val d), T', ro⟩ ∧ acc.length < sizeLine ∧ I (k + 1) (acc ++ [x]) T') (fun _ _ => False)) (∃ T', s2 = ⟨env.set i (.val d), T', ro⟩ ∧ I (k + 1) acc T')) (fun _ _ => False))
    (hq : ∀ acc T sl, I ds.length acc T → Q acc ⟨env.set i sl, T, ro⟩) :
    ∀ (m k : Nat) (acc : List Dt) (T : List Ob) (sl : Sl), k + m = ds.length → I k acc T → W (loopC v [i] (.name i) (fun s => (evE Γ cond s).truth.noexc) (fun s => (evE Γ elt s).dt.noexc) m k acc ⟨env.set i sl, T, ro⟩) Q X := by
  intro m
  induction m with
  | zero =>
    intro k acc T sl hk hi
    have hk : k = ds.length := by omega
    subst hk
    rw [loopC_eq, hv.at_, List.getElem?_eq_none (Nat.le_refl _)]
    exact hq acc T sl hi
  | succ m ih =>
    intro k acc T sl hk hi
    have hlt : k < ds.length := by omega
    rw [loopC_eq, hv.at_, List.getElem?_eq_getElem hlt]
    have hd : ds[k]? = some ds[k] := List.getElem?_eq_getElem hlt
    have e : Tg.set (.name i) (Sta.wip ⟨env.set i sl, T, ro⟩ [i]) ds[k] = some ⟨env.set i (.val ds[k]), T, ro⟩ := by
      show some (Sta.mk (((env.set i sl).set i .none).set i _) T ro) = _
      rw [List.set_set, List.set_set]
    show W (match m + 1, Tg.set (.name i) (Sta.wip ⟨env.set i sl, T, ro⟩ [i]) ds[k] with
      | n + 1, some st1 => ((evE Γ cond st1).truth.noexc).bind fun b st2 => if b then ((evE Γ elt st2).dt.noexc).bind fun x st3 => if acc.length < sizeLine then loopC v [i] (.name i) _ _ n (k + 1) (acc ++ [x]) st3 else .stuck
        else loopC v [i] (.name i) _ _ n (k + 1) acc st2
      | _, _ => .stuck) Q X
    rw [e]
    show W (Res.bind _ _) Q X
    rw [W_bind, W_noexc, W_truth]
    refine W_mono (hs k acc T _ hd hi) ?_ (fun _ _ h => h.elim)
    intro h s2 hh
    cases h with
    | val d =>
      cases d with
      | bl b =>
        have hh : IT b _ _ := hh
        show W (if b = true then _ else _) Q X
        rw [W_ite]
        cases b with
        | true =>
          rw [IT_t] at hh ⊢
          rw [W_bind, W_noexc, W_dt]
          refine W_mono hh ?_ (fun _ _ h => h.elim)
          intro h2 s3 h3
          cases h2 with
          | val d => obtain ⟨T', rfl, h4, h5⟩ := h3; rw [DW_v, W_dite]; exact ⟨h4, ih _ _ _ _ (by omega) h5⟩
          | new d => obtain ⟨T', rfl, h4, h5⟩ := h3; rw [DW_n, W_dite]; exact ⟨h4, ih _ _ _ _ (by omega) h5⟩
          | _ => exact h3.elim
        | false =>
          rw [IT_f] at hh ⊢
          obtain ⟨T', rfl, h5⟩ := hh
          exact ih _ _ _ _ (by omega) h5
      | _ => exact hh.elim
    | _ => exact hh.elim
/-- a comprehension over known items, behind the walked thing -/
theorem W_comp_st {Γ : Gm} {v : Itv} {ds : List Dt} (hv : Items v ds) {i : Nat} {cond elt : E} {env : List Sl} {T : List Ob} {ro : Bool} (I : Nat → List Dt → List Ob → Prop) {Q : Hd → Sta → Prop} {X : Nat → Sta → Prop} {sl : Sl}
    (he : env[i]? = some sl) (ho : sl.isOwn = false) (h0 : I 0 [] T)
    (hs : ∀ k acc T d, ds[k]? = some d → I k acc T → W (evE Γ cond ⟨env.set i (.val d), T, ro⟩) (fun h s2 => TW h fun b => IT b (W (evE Γ elt s2) (fun h s3 => DW h fun x => ∃ T', s3 = ⟨env.set i (.val d), T', ro⟩ ∧ acc.length < sizeLine ∧ I (k + 1) (acc ++ [x]) T') (fun _ _ => False)) (∃ T', s2 = ⟨env.set i (.val d), T', ro⟩ ∧ I (k + 1) acc T')) (fun _ _ => False))
    (hq : ∀ acc T, I ds.length acc T → Q (.new acc) ⟨env, T, ro⟩) :
    CW Γ elt (.name i) cond [i] v ⟨env, T, ro⟩ Q X ⟨⟩ := by
  have hi : i < env.length := by
    rcases Nat.lt_or_ge i env.length with h | h
    · exact h
    · rw [List.getElem?_eq_none h] at he; cases he
  have hsl : env[i] = sl := by
    rw [List.getElem?_eq_getElem hi] at he
    exact Option.some.inj he
  have es : env.set i sl = env := by rw [← hsl]; exact List.set_getElem_self hi
  refine ⟨by simp [ownFree, he, ho], ?_⟩
  show W (loopC v [i] (.name i) (fun s => (evE Γ cond s).truth.noexc) (fun s => (evE Γ elt s).dt.noexc) (v.len ⟨env, T, ro⟩) 0 [] ⟨env, T, ro⟩) (fun ds st2 => Q (.new ds) { st2 with env := putBack [i] (⟨env, T, ro⟩ : Sta).env st2.env }) X
  rw [hv.len]
  have h := W_loopC (Q := fun ds st2 => Q (.new ds) { st2 with env := putBack [i] env st2.env }) (X := X) (env := env) hv I hs (fun acc T' sl' hI => by
    show Q (.new acc) ⟨(env.set i sl').set i (env.getD i .none), T', ro⟩
    rw [List.set_set, List.getD_eq_getElem?_getD, he]
    show Q (.new acc) ⟨env.set i sl, T', ro⟩
    rw [es]; exact hq acc T' hI) ds.length 0 [] T sl (by omega) h0
  rw [es] at h
  exact h
theorem W_comp_pure {Γ : Gm} {v : Itv} {ds : List Dt} (hv : Items v ds) {i : Nat} {cond elt : E} {env : List Sl} {T : List Ob} {ro : Bool} (c : Dt → Bool) (x : Dt → Dt) {Q : Hd → Sta → Prop} {X : Nat → Sta → Prop} {sl : Sl}
    (he : env[i]? = some sl) (ho : sl.isOwn = false) (hl : ds.length ≤ sizeLine)
    (hc : ∀ d, d ∈ ds → W (evE Γ cond ⟨env.set i (.val d), T, ro⟩) (fun h s => h = .val (.bl (c d)) ∧ s = ⟨env.set i (.val d), T, ro⟩) (fun _ _ => False))
    (hx : ∀ d, d ∈ ds → c d = true → W (evE Γ elt ⟨env.set i (.val d), T, ro⟩) (fun h s => (DW h fun y => y = x d) ∧ s = ⟨env.set i (.val d), T, ro⟩) (fun _ _ => False))
    (hq : Q (.new ((ds.filter c).map x)) ⟨env, T, ro⟩) :
    CW Γ elt (.name i) cond [i] v ⟨env, T, ro⟩ Q X ⟨⟩ := by
  refine W_comp_st hv (fun k acc T' => T' = T ∧ acc = ((ds.take k).filter c).map x) he ho ⟨rfl, rfl⟩ ?_ ?_
  · rintro k acc T' d hd ⟨rfl, rfl⟩
    have hm : d ∈ ds := List.mem_of_getElem? hd
    have hk : k < ds.length := by
      rcases Nat.lt_or_ge k ds.length with h | h
      · exact h
      · rw [List.getElem?_eq_none h] at hd; cases hd
    have ht : ds.take (k + 1) = ds.take k ++ [d] := by
      rw [List.take_add_one, hd]; rfl
    have hlen : (((ds.take k).filter c).map x).length < sizeLine := by
      rw [List.length_map]
      have := List.length_filter_le c (ds.take k)
      have h2 : (ds.take k).length ≤ k := by rw [List.length_take]; omega
      omega
    refine W_mono (hc d hm) ?_ (fun _ _ h => h.elim)
    rintro h s ⟨rfl, rfl⟩
    rw [TW_b]
    cases hcd : c d with
    | true =>
      rw [IT_t]
      refine W_mono (hx d hm hcd) ?_ (fun _ _ h => h.elim)
      rintro h s ⟨h1, rfl⟩
      have e : ((ds.take (k + 1)).filter c).map x = ((ds.take k).filter c).map x ++ [x d] := by
        rw [ht, List.filter_append, List.map_append]
        simp [hcd]
      cases h with
      | val y => have h1 : y = x d := h1; subst h1; exact ⟨T', rfl, hlen, rfl, e.symm⟩
      | new y => have h1 : Dt.lst y = x d := h1; rw [DW_n, h1]; exact ⟨T', rfl, hlen, rfl, e.symm⟩
      | _ => exact h1.elim
    | false =>
      rw [IT_f]
      refine ⟨T', rfl, rfl, ?_⟩
      rw [ht, List.filter_append, List.map_append]
      simp [hcd]
  · rintro acc T' ⟨rfl, rfl⟩
    rw [List.take_length]
    exact hq
end EV
namespace EV
open PySem PySem.Spec PyProof.Rows L2
/-! lists of ints, compared -/
theorem can_ints : ∀ xs : List Int, PyData.canLayAll0 (xs.map PyData.int) = true
  | [] => by simp [PyData.canLayAll0]
  | x :: xs => by simp [PyData.canLayAll0, PyData.canLay0, can_ints xs]
theorem eqv_ints : ∀ xs ys : List Int, PyData.eqvAll (xs.map PyData.int) (ys.map PyData.int) = decide (xs = ys)
  | [], [] => by simp [PyData.eqvAll]
  | [], y :: ys => by simp [PyData.eqvAll]
  | x :: xs, [] => by simp [PyData.eqvAll]
  | x :: xs, y :: ys => by
    have := eqv_ints xs ys
    simp only [List.map_cons, PyData.eqvAll, PyData.eqv, this]
    by_cases h : x = y <;> by_cases h2 : xs = ys <;> simp [h, h2]
theorem dep_ints : ∀ xs : List Int, PyData.depthAll (xs.map PyData.int) ≤ 1
  | [] => by simp [PyData.depthAll]
  | x :: xs => by
    have := dep_ints xs
    simp only [List.map_cons, PyData.depthAll, PyData.depth]
    omega
theorem shl_ints (xs : List Int) : SeqAt.shaped (.list (xs.map PyData.int)) = true := by
  have h := dep_ints xs
  simp only [SeqAt.shaped, PyData.canLay0, can_ints, PyData.depth, Bool.true_and]
  exact decide_eq_true (by omega)
theorem sht_ints (xs : List Int) : SeqAt.shaped (.tuple (xs.map PyData.int)) = true := by
  have h := dep_ints xs
  simp only [SeqAt.shaped, PyData.canLay0, can_ints, PyData.depth, Bool.true_and]
  exact decide_eq_true (by omega)
theorem eqGen_ll {st : Sta} {x y : Hd} {xs ys : List Int} (h1 : seqOf st x = some (true, xs.map .int)) (h2 : seqOf st y = some (true, ys.map .int)) : eqGen st x y = some (decide (xs = ys)) := by
  unfold eqGen pyOf
  rw [h1, h2]
  simp only [toPys_ints, Option.map_some, shl_ints, Bool.and_self, if_true, PyData.eqv, eqv_ints]
theorem eqGen_tt {st : Sta} {x y : Hd} {xs ys : List Int} (h1 : seqOf st x = some (false, xs.map .int)) (h2 : seqOf st y = some (false, ys.map .int)) : eqGen st x y = some (decide (xs = ys)) := by
  unfold eqGen pyOf
  rw [h1, h2]
  simp only [toPys_ints, Option.map_some, sht_ints, Bool.and_self, if_true, PyData.eqv, eqv_ints]
section
variable (st : Sta) (P : Hd → Prop) (xs ys : List Int)
theorem D_eqll : OW (cmpD .eq st (.val (.lst (xs.map .int))) (.val (.lst (ys.map .int)))) P = P (.val (.bl (decide (xs = ys)))) := by
  show OW ((eqGen st _ _).map _) P = _
  rw [eqGen_ll rfl rfl]; rfl
theorem D_nell : OW (cmpD .ne st (.val (.lst (xs.map .int))) (.val (.lst (ys.map .int)))) P = P (.val (.bl (!decide (xs = ys)))) := by
  show OW ((eqGen st _ _).map _) P = _
  rw [eqGen_ll rfl rfl]; rfl
theorem D_eqnn : OW (cmpD .eq st (.new (xs.map .int)) (.new (ys.map .int))) P = P (.val (.bl (decide (xs = ys)))) := by
  show OW ((eqGen st _ _).map _) P = _
  rw [eqGen_ll rfl rfl]; rfl
theorem D_nenn : OW (cmpD .ne st (.new (xs.map .int)) (.new (ys.map .int))) P = P (.val (.bl (!decide (xs = ys)))) := by
  show OW ((eqGen st _ _).map _) P = _
  rw [eqGen_ll rfl rfl]; rfl
theorem D_eqnl : OW (cmpD .eq st (.new (xs.map .int)) (.val (.lst (ys.map .int)))) P = P (.val (.bl (decide (xs = ys)))) := by
  show OW ((eqGen st _ _).map _) P = _
  rw [eqGen_ll rfl rfl]; rfl
theorem D_nenl : OW (cmpD .ne st (.new (xs.map .int)) (.val (.lst (ys.map .int)))) P = P (.val (.bl (!decide (xs = ys)))) := by
  show OW ((eqGen st _ _).map _) P = _
  rw [eqGen_ll rfl rfl]; rfl
theorem D_eqln : OW (cmpD .eq st (.val (.lst (xs.map .int))) (.new (ys.map .int))) P = P (.val (.bl (decide (xs = ys)))) := by
  show OW ((eqGen st _ _).map _) P = _
  rw [eqGen_ll rfl rfl]; rfl
theorem D_neln : OW (cmpD .ne st (.val (.lst (xs.map .int))) (.new (ys.map .int))) P = P (.val (.bl (!decide (xs = ys)))) := by
  show OW ((eqGen st _ _).map _) P = _
  rw [eqGen_ll rfl rfl]; rfl
theorem D_eqn0 : OW (cmpD .eq st (.new (xs.map .int)) (.new [])) P = P (.val (.bl (decide (xs = [])))) := D_eqnn st P xs []
theorem D_eqtt : OW (cmpD .eq st (.val (.tup (xs.map .int))) (.val (.tup (ys.map .int)))) P = P (.val (.bl (decide (xs = ys)))) := by
  show OW ((eqGen st _ _).map _) P = _
  rw [eqGen_tt rfl rfl]; rfl
theorem D_nett : OW (cmpD .ne st (.val (.tup (xs.map .int))) (.val (.tup (ys.map .int)))) P = P (.val (.bl (!decide (xs = ys)))) := by
  show OW ((eqGen st _ _).map _) P = _
  rw [eqGen_tt rfl rfl]; rfl
end
theorem at_last (xs : List Int) (k : Nat) (h : k < xs.length) : atI (xs.map Dt.int) (0 + (k : Int)) = some (.int xs[k]) := by
  rw [at_in _ _ (by omega) (by rw [List.length_map]; omega)]
  simp [h]
theorem filter_false {α : Type} (xs : List α) : xs.filter (fun _ => false) = [] := by induction xs <;> simp_all
theorem D_ill (ds : List Dt) (st : Sta) (P : Hd → Prop) : OW (isiD .list st (.val (.lst ds))) P = P (.val (.bl true)) := rfl
theorem D_itt (ds : List Dt) (st : Sta) (P : Hd → Prop) : OW (isiD .tuple st (.val (.tup ds))) P = P (.val (.bl true)) := rfl
/-- a list of ints is the due one -/
def bInts1 : Ss := (.cons (.ret (.cst (.bl false))) .nil)
def bInts2 (f : Nat) : Ss :=
  (.cons (.ret (.cmp .eq (.comp (.var 2) (.rng1 (.blt .len (.var 1))) (.name 2) (.not (.call f (.cons (.ix (.var 0) (.var 2)) (.cons (.ix (.var 1) (.var 2)) .nil)))) [2]) (.lst .nil)))
  .nil)
def bInts (f : Nat) : Ss :=
  (.cons (.iff (.or (.not (.isi (.var 0) .list)) (.cmp .ne (.blt .len (.var 0)) (.blt .len (.var 1)))) bInts1 .nil)
  (bInts2 f))
theorem ints_run {p : Prg} {f g e : Nat} (hf : p.fn f = ⟨3, bInts g⟩) (ha : p.ar f = 2) (hg : p.fn g = ⟨2, bInt e⟩) (hga : p.ar g = 2) (he : p.fn e = ⟨1, bIsI⟩) (hea : p.ar e = 1) {k : Nat} (hk : 2 < k) (xs : List Int) (hx : xs.length ≤ 1000) (ro : Bool) (T : List Ob) :
    run p k f ro [.lst (xs.map .int), .lst (xs.map .int)] T = .ok (.val (.bl true)) T := by
  have zl : sizeLine = 16777216 := rfl
  refine WC_eq (WC_run (by rw [ha]; rfl) hf (by omega) ?_)
  have hi := fun i j => int_run hg hga he hea (k := k - 1) (by omega) i j ro T
  simp -implicitDefEqProofs -dsimp (disch := omega) only [bInts, bInts2, List.map, List.length, List.replicate, List.cons_append, List.nil_append, ↓W_dt, ↓W_fld, ↓W_meth, ↓W_make, ↓MkW_n, ↓W_popl, ↓W_setf, ↓W_augx, ↓W_asgM, ↓Gam_ncl, ↓EnW_l, ↓EnW_s, ↓EnW_n, ↓EnW_f, ↓EnW_b, ↓LG_rng, ↓LG_seq, ↓LG_enum, ↓LG_zip, ↓LG_str, ↓LG_seqR, ↓LG_enumR, ↓I3W_f, ↓I3W_b, ↓InW_s, ↓FdW_v, ↓FdW_o, ↓FdW_d, ↓InB_s, ↓D_fld, ↓D_meth, ↓D_setf, ↓SO_v, ↓SO_n, ↓SO_nf, ↓SO_d, ↓sq_f, ↓live_f, ↓live_b, ↓D_lenF, ↓D_ixF, ↓D_appF, ↓D_setF, ↓D_poplF, ↓D_lofF, ↓tp0, ↓tpS, ↓bh_f, ↓CG_rng, ↓CG_seq, ↓CG_enum, ↓CG_zip, ↓CG_str, ↓CG_seqR, ↓CG_enumR, ↓W_var, ↓W_cst, ↓W_glob, ↓W_bin, ↓W_cmp, ↓W_ix, ↓W_un, ↓W_blt, ↓W_blt2, ↓W_isi, ↓W_bits, ↓W_idx, ↓W_find, ↓W_pop, ↓W_dnew, ↓W_dix, ↓W_din, ↓W_sset, ↓D_sset, ↓W_lrg1, ↓W_lrg2, ↓W_dput, ↓StW_s, ↓ViW_i, ↓VaW_v, ↓SlW_d, ↓bh_nd, ↓OdW_s, ↓LnW_o, ↓LnW_d, ↓D_pop, ↓D_dixI, ↓D_dixS, ↓D_dinI, ↓D_dinS, ↓D_dputI, ↓D_dputS, ↓D_find, ↓D_lrg, ↓W_enum, ↓W_zip, ↓W_istr, ↓lstP_l, ↓lstP_s, ↓lstP_n, ↓lstQ_l, ↓W_revl, ↓W_revs, ↓W_sl, ↓W_bind, ↓W_partT, ↓W_partF, ↓PaW_i, ↓D_list, ↓D_tuple, ↓D_sum, ↓D_sorted, ↓D_maxl, ↓D_minl, ↓D_str, ↓D_bits, ↓D_revS, ↓D_revL, ↓D_revN, ↓seq_t, ↓seq_l, ↓seq_s, ↓seq_n, ↓seq_b, ↓seq_o, ↓ints_n, ↓ints_l, ↓inta_n, ↓inta_l, ↓inta_t, ↓W_exi, ↓W_chain, ↓W_not, ↓W_and, ↓W_or, ↓W_ife, ↓W_tup, ↓W_lst, ↓W_call, ↓W_frz, ↓W_mkbox, ↓W_app, ↓W_enil, ↓W_econs, ↓W_rng1, ↓W_rng2, ↓W_seq, ↓W_asg, ↓W_asgO, ↓W_asgT, ↓W_aug, ↓W_setix, ↓W_expr, ↓W_ret, ↓W_retN, ↓W_pass, ↓W_brk, ↓W_cont, ↓W_raise, ↓W_if, ↓W_for, ↓W_nil, ↓W_cons, ↓W_try, ↓W_ok, ↓W_exc, ↓WC_ok, ↓WC_exc, ↓WK_ok, ↓WK_exc, ↓TW_b, ↓DW_v, ↓DW_n, ↓IT_t, ↓IT_f, ↓IT_dt, ↓IT_df, IT_d, ↓IT_e1, ↓IT_e2, ↓IT_e3, ↓IT_e4, ↓IT_n, ↓IT_a, ↓SlW_v, ↓SlW_o, ↓OW_s, ↓FW_nx, ↓FW_rt, ↓FW_bk, ↓FW_ct, ↓RW_v, ↓RW_n, ↓RW_o, ↓bh_v, ↓bh_n, ↓bh_o, ↓Gam_glob, ↓D_add, ↓D_sub, ↓D_mul, ↓D_fdiv, ↓D_mod, ↓D_band, ↓D_bor, ↓D_bxor, ↓D_shl, ↓D_shr, ↓D_lt, ↓D_le, ↓D_gt, ↓D_ge, ↓D_eqi, ↓D_nei, ↓D_eqb,  ↓D_neb, ↓D_isN, ↓D_inN, ↓D_isi1, ↓D_ini1, ↓D_ist1, ↓D_int1, ↓D_isl1, ↓D_inl1, ↓D_isn1, ↓D_inn1, ↓D_isb1, ↓D_inb1, ↓D_neg, ↓D_abs, ↓D_int, ↓D_intb, ↓D_lenT, ↓D_lenL, ↓D_lenS, ↓D_lenN, ↓D_lenB, ↓D_lenO, ↓D_max, ↓D_min, ↓D_ixT, ↓D_ixL, ↓D_ixS, ↓D_ixN, ↓D_ixB, ↓D_ixO, ↓D_setB, ↓D_setO, ↓D_appO, ↓D_lof, ↓D_catNN, ↓D_catNL, ↓D_catLN, ↓D_catLL, ↓D_ii, ↓D_ib, ↓D_bi, ↓D_bb, ↓BW_s, ↓OnW_s, ↓OnB_s, ↓VW_rv, ↓VW_rn, ↓VW_nx, ↓RV_rv, ↓at0, ↓at1, ↓at2, ↓at3, ↓Au_add, ↓Au_sub, ↓Au_bor, ↓Au_mul, ↓sT0, ↓sTS, ↓I1W_i, ↓I2W_i, ↓I3W_l, ↓I3W_s, ↓I3W_t, ↓I3W_n, ↓stepQ_nx, ↓stepQ_ct, ↓stepQ_bk, ↓stepQ_rt, ↓sE, ↓eg0, ↓egS, ↓st0, ↓stS, ↓true_and, ↓and_true, ↓eq_self, ↓isF_v, ↓isF_n, ↓decide_true, ↓decide_false, ↓Bool.not_true, ↓Bool.not_false, List.set_cons_zero, List.set_cons_succ, ↓D_ill, ↓W_comp, List.length_map, decide_true]
  refine ⟨smallR_in _ _ (by omega) (by omega) (by omega) (by omega), ?_⟩
  refine W_comp_pure (items_r 0 _) (fun _ => false) id (sl := .none) ?_ rfl ?_ ?_ ?_ ?_
  · rfl
  · rw [rngD_len]; omega
  · intro d hd
    obtain ⟨n, hn, rfl⟩ := List.mem_map.1 hd
    have hn : n < xs.length := by simpa using hn
    simp -implicitDefEqProofs -dsimp (disch := omega) only [List.map, List.length, List.replicate, List.cons_append, List.nil_append, ↓W_dt, ↓W_fld, ↓W_meth, ↓W_make, ↓MkW_n, ↓W_popl, ↓W_setf, ↓W_augx, ↓W_asgM, ↓Gam_ncl, ↓EnW_l, ↓EnW_s, ↓EnW_n, ↓EnW_f, ↓EnW_b, ↓LG_rng, ↓LG_seq, ↓LG_enum, ↓LG_zip, ↓LG_str, ↓LG_seqR, ↓LG_enumR, ↓I3W_f, ↓I3W_b, ↓InW_s, ↓FdW_v, ↓FdW_o, ↓FdW_d, ↓InB_s, ↓D_fld, ↓D_meth, ↓D_setf, ↓SO_v, ↓SO_n, ↓SO_nf, ↓SO_d, ↓sq_f, ↓live_f, ↓live_b, ↓D_lenF, ↓D_ixF, ↓D_appF, ↓D_setF, ↓D_poplF, ↓D_lofF, ↓tp0, ↓tpS, ↓bh_f, ↓CG_rng, ↓CG_seq, ↓CG_enum, ↓CG_zip, ↓CG_str, ↓CG_seqR, ↓CG_enumR, ↓W_var, ↓W_cst, ↓W_glob, ↓W_bin, ↓W_cmp, ↓W_ix, ↓W_un, ↓W_blt, ↓W_blt2, ↓W_isi, ↓W_bits, ↓W_idx, ↓W_find, ↓W_pop, ↓W_dnew, ↓W_dix, ↓W_din, ↓W_sset, ↓D_sset, ↓W_lrg1, ↓W_lrg2, ↓W_dput, ↓StW_s, ↓ViW_i, ↓VaW_v, ↓SlW_d, ↓bh_nd, ↓OdW_s, ↓LnW_o, ↓LnW_d, ↓D_pop, ↓D_dixI, ↓D_dixS, ↓D_dinI, ↓D_dinS, ↓D_dputI, ↓D_dputS, ↓D_find, ↓D_lrg, ↓W_enum, ↓W_zip, ↓W_istr, ↓lstP_l, ↓lstP_s, ↓lstP_n, ↓lstQ_l, ↓W_revl, ↓W_revs, ↓W_sl, ↓W_bind, ↓W_partT, ↓W_partF, ↓PaW_i, ↓D_list, ↓D_tuple, ↓D_sum, ↓D_sorted, ↓D_maxl, ↓D_minl, ↓D_str, ↓D_bits, ↓D_revS, ↓D_revL, ↓D_revN, ↓seq_t, ↓seq_l, ↓seq_s, ↓seq_n, ↓seq_b, ↓seq_o, ↓ints_n, ↓ints_l, ↓inta_n, ↓inta_l, ↓inta_t, ↓W_exi, ↓W_chain, ↓W_not, ↓W_and, ↓W_or, ↓W_ife, ↓W_tup, ↓W_lst, ↓W_call, ↓W_frz, ↓W_mkbox, ↓W_app, ↓W_enil, ↓W_econs, ↓W_rng1, ↓W_rng2, ↓W_seq, ↓W_asg, ↓W_asgO, ↓W_asgT, ↓W_aug, ↓W_setix, ↓W_expr, ↓W_ret, ↓W_retN, ↓W_pass, ↓W_brk, ↓W_cont, ↓W_raise, ↓W_if, ↓W_for, ↓W_nil, ↓W_cons, ↓W_try, ↓W_ok, ↓W_exc, ↓WC_ok, ↓WC_exc, ↓WK_ok, ↓WK_exc, ↓TW_b, ↓DW_v, ↓DW_n, ↓IT_t, ↓IT_f, ↓IT_dt, ↓IT_df, IT_d, ↓IT_e1, ↓IT_e2, ↓IT_e3, ↓IT_e4, ↓IT_n, ↓IT_a, ↓SlW_v, ↓SlW_o, ↓OW_s, ↓FW_nx, ↓FW_rt, ↓FW_bk, ↓FW_ct, ↓RW_v, ↓RW_n, ↓RW_o, ↓bh_v, ↓bh_n, ↓bh_o, ↓Gam_glob, ↓D_add, ↓D_sub, ↓D_mul, ↓D_fdiv, ↓D_mod, ↓D_band, ↓D_bor, ↓D_bxor, ↓D_shl, ↓D_shr, ↓D_lt, ↓D_le, ↓D_gt, ↓D_ge, ↓D_eqi, ↓D_nei, ↓D_eqb,  ↓D_neb, ↓D_isN, ↓D_inN, ↓D_isi1, ↓D_ini1, ↓D_ist1, ↓D_int1, ↓D_isl1, ↓D_inl1, ↓D_isn1, ↓D_inn1, ↓D_isb1, ↓D_inb1, ↓D_neg, ↓D_abs, ↓D_int, ↓D_intb, ↓D_lenT, ↓D_lenL, ↓D_lenS, ↓D_lenN, ↓D_lenB, ↓D_lenO, ↓D_max, ↓D_min, ↓D_ixT, ↓D_ixL, ↓D_ixS, ↓D_ixN, ↓D_ixB, ↓D_ixO, ↓D_setB, ↓D_setO, ↓D_appO, ↓D_lof, ↓D_catNN, ↓D_catNL, ↓D_catLN, ↓D_catLL, ↓D_ii, ↓D_ib, ↓D_bi, ↓D_bb, ↓BW_s, ↓OnW_s, ↓OnB_s, ↓VW_rv, ↓VW_rn, ↓VW_nx, ↓RV_rv, ↓at0, ↓at1, ↓at2, ↓at3, ↓Au_add, ↓Au_sub, ↓Au_bor, ↓Au_mul, ↓sT0, ↓sTS, ↓I1W_i, ↓I2W_i, ↓I3W_l, ↓I3W_s, ↓I3W_t, ↓I3W_n, ↓stepQ_nx, ↓stepQ_ct, ↓stepQ_bk, ↓stepQ_rt, ↓sE, ↓eg0, ↓egS, ↓st0, ↓stS, ↓true_and, ↓and_true, ↓eq_self, ↓isF_v, ↓isF_n, ↓decide_true, ↓decide_false, ↓Bool.not_true, ↓Bool.not_false, List.set_cons_zero, List.set_cons_succ, at_last _ _ hn, hi, decide_true]
  · intro d hd h; cases h
  · rw [filter_false]
    simp -implicitDefEqProofs -dsimp (disch := omega) only [List.map, List.length, List.replicate, List.cons_append, List.nil_append, ↓W_dt, ↓W_fld, ↓W_meth, ↓W_make, ↓MkW_n, ↓W_popl, ↓W_setf, ↓W_augx, ↓W_asgM, ↓Gam_ncl, ↓EnW_l, ↓EnW_s, ↓EnW_n, ↓EnW_f, ↓EnW_b, ↓LG_rng, ↓LG_seq, ↓LG_enum, ↓LG_zip, ↓LG_str, ↓LG_seqR, ↓LG_enumR, ↓I3W_f, ↓I3W_b, ↓InW_s, ↓FdW_v, ↓FdW_o, ↓FdW_d, ↓InB_s, ↓D_fld, ↓D_meth, ↓D_setf, ↓SO_v, ↓SO_n, ↓SO_nf, ↓SO_d, ↓sq_f, ↓live_f, ↓live_b, ↓D_lenF, ↓D_ixF, ↓D_appF, ↓D_setF, ↓D_poplF, ↓D_lofF, ↓tp0, ↓tpS, ↓bh_f, ↓CG_rng, ↓CG_seq, ↓CG_enum, ↓CG_zip, ↓CG_str, ↓CG_seqR, ↓CG_enumR, ↓W_var, ↓W_cst, ↓W_glob, ↓W_bin, ↓W_cmp, ↓W_ix, ↓W_un, ↓W_blt, ↓W_blt2, ↓W_isi, ↓W_bits, ↓W_idx, ↓W_find, ↓W_pop, ↓W_dnew, ↓W_dix, ↓W_din, ↓W_sset, ↓D_sset, ↓W_lrg1, ↓W_lrg2, ↓W_dput, ↓StW_s, ↓ViW_i, ↓VaW_v, ↓SlW_d, ↓bh_nd, ↓OdW_s, ↓LnW_o, ↓LnW_d, ↓D_pop, ↓D_dixI, ↓D_dixS, ↓D_dinI, ↓D_dinS, ↓D_dputI, ↓D_dputS, ↓D_find, ↓D_lrg, ↓W_enum, ↓W_zip, ↓W_istr, ↓lstP_l, ↓lstP_s, ↓lstP_n, ↓lstQ_l, ↓W_revl, ↓W_revs, ↓W_sl, ↓W_bind, ↓W_partT, ↓W_partF, ↓PaW_i, ↓D_list, ↓D_tuple, ↓D_sum, ↓D_sorted, ↓D_maxl, ↓D_minl, ↓D_str, ↓D_bits, ↓D_revS, ↓D_revL, ↓D_revN, ↓seq_t, ↓seq_l, ↓seq_s, ↓seq_n, ↓seq_b, ↓seq_o, ↓ints_n, ↓ints_l, ↓inta_n, ↓inta_l, ↓inta_t, ↓W_exi, ↓W_chain, ↓W_not, ↓W_and, ↓W_or, ↓W_ife, ↓W_tup, ↓W_lst, ↓W_call, ↓W_frz, ↓W_mkbox, ↓W_app, ↓W_enil, ↓W_econs, ↓W_rng1, ↓W_rng2, ↓W_seq, ↓W_asg, ↓W_asgO, ↓W_asgT, ↓W_aug, ↓W_setix, ↓W_expr, ↓W_ret, ↓W_retN, ↓W_pass, ↓W_brk, ↓W_cont, ↓W_raise, ↓W_if, ↓W_for, ↓W_nil, ↓W_cons, ↓W_try, ↓W_ok, ↓W_exc, ↓WC_ok, ↓WC_exc, ↓WK_ok, ↓WK_exc, ↓TW_b, ↓DW_v, ↓DW_n, ↓IT_t, ↓IT_f, ↓IT_dt, ↓IT_df, IT_d, ↓IT_e1, ↓IT_e2, ↓IT_e3, ↓IT_e4, ↓IT_n, ↓IT_a, ↓SlW_v, ↓SlW_o, ↓OW_s, ↓FW_nx, ↓FW_rt, ↓FW_bk, ↓FW_ct, ↓RW_v, ↓RW_n, ↓RW_o, ↓bh_v, ↓bh_n, ↓bh_o, ↓Gam_glob, ↓D_add, ↓D_sub, ↓D_mul, ↓D_fdiv, ↓D_mod, ↓D_band, ↓D_bor, ↓D_bxor, ↓D_shl, ↓D_shr, ↓D_lt, ↓D_le, ↓D_gt, ↓D_ge, ↓D_eqi, ↓D_nei, ↓D_eqb,  ↓D_neb, ↓D_isN, ↓D_inN, ↓D_isi1, ↓D_ini1, ↓D_ist1, ↓D_int1, ↓D_isl1, ↓D_inl1, ↓D_isn1, ↓D_inn1, ↓D_isb1, ↓D_inb1, ↓D_neg, ↓D_abs, ↓D_int, ↓D_intb, ↓D_lenT, ↓D_lenL, ↓D_lenS, ↓D_lenN, ↓D_lenB, ↓D_lenO, ↓D_max, ↓D_min, ↓D_ixT, ↓D_ixL, ↓D_ixS, ↓D_ixN, ↓D_ixB, ↓D_ixO, ↓D_setB, ↓D_setO, ↓D_appO, ↓D_lof, ↓D_catNN, ↓D_catNL, ↓D_catLN, ↓D_catLL, ↓D_ii, ↓D_ib, ↓D_bi, ↓D_bb, ↓BW_s, ↓OnW_s, ↓OnB_s, ↓VW_rv, ↓VW_rn, ↓VW_nx, ↓RV_rv, ↓at0, ↓at1, ↓at2, ↓at3, ↓Au_add, ↓Au_sub, ↓Au_bor, ↓Au_mul, ↓sT0, ↓sTS, ↓I1W_i, ↓I2W_i, ↓I3W_l, ↓I3W_s, ↓I3W_t, ↓I3W_n, ↓stepQ_nx, ↓stepQ_ct, ↓stepQ_bk, ↓stepQ_rt, ↓sE, ↓eg0, ↓egS, ↓st0, ↓stS, ↓true_and, ↓and_true, ↓eq_self, ↓isF_v, ↓isF_n, ↓decide_true, ↓decide_false, ↓Bool.not_true, ↓Bool.not_false, List.set_cons_zero, List.set_cons_succ, List.map]
    refine ⟨by omega, ?_⟩
    rw [show (Hd.new [] : Hd) = .new (([] : List Int).map .int) from rfl, D_eqnn]
    simp -implicitDefEqProofs -dsimp (disch := omega) only [List.map, List.length, List.replicate, List.cons_append, List.nil_append, ↓W_dt, ↓W_fld, ↓W_meth, ↓W_make, ↓MkW_n, ↓W_popl, ↓W_setf, ↓W_augx, ↓W_asgM, ↓Gam_ncl, ↓EnW_l, ↓EnW_s, ↓EnW_n, ↓EnW_f, ↓EnW_b, ↓LG_rng, ↓LG_seq, ↓LG_enum, ↓LG_zip, ↓LG_str, ↓LG_seqR, ↓LG_enumR, ↓I3W_f, ↓I3W_b, ↓InW_s, ↓FdW_v, ↓FdW_o, ↓FdW_d, ↓InB_s, ↓D_fld, ↓D_meth, ↓D_setf, ↓SO_v, ↓SO_n, ↓SO_nf, ↓SO_d, ↓sq_f, ↓live_f, ↓live_b, ↓D_lenF, ↓D_ixF, ↓D_appF, ↓D_setF, ↓D_poplF, ↓D_lofF, ↓tp0, ↓tpS, ↓bh_f, ↓CG_rng, ↓CG_seq, ↓CG_enum, ↓CG_zip, ↓CG_str, ↓CG_seqR, ↓CG_enumR, ↓W_var, ↓W_cst, ↓W_glob, ↓W_bin, ↓W_cmp, ↓W_ix, ↓W_un, ↓W_blt, ↓W_blt2, ↓W_isi, ↓W_bits, ↓W_idx, ↓W_find, ↓W_pop, ↓W_dnew, ↓W_dix, ↓W_din, ↓W_sset, ↓D_sset, ↓W_lrg1, ↓W_lrg2, ↓W_dput, ↓StW_s, ↓ViW_i, ↓VaW_v, ↓SlW_d, ↓bh_nd, ↓OdW_s, ↓LnW_o, ↓LnW_d, ↓D_pop, ↓D_dixI, ↓D_dixS, ↓D_dinI, ↓D_dinS, ↓D_dputI, ↓D_dputS, ↓D_find, ↓D_lrg, ↓W_enum, ↓W_zip, ↓W_istr, ↓lstP_l, ↓lstP_s, ↓lstP_n, ↓lstQ_l, ↓W_revl, ↓W_revs, ↓W_sl, ↓W_bind, ↓W_partT, ↓W_partF, ↓PaW_i, ↓D_list, ↓D_tuple, ↓D_sum, ↓D_sorted, ↓D_maxl, ↓D_minl, ↓D_str, ↓D_bits, ↓D_revS, ↓D_revL, ↓D_revN, ↓seq_t, ↓seq_l, ↓seq_s, ↓seq_n, ↓seq_b, ↓seq_o, ↓ints_n, ↓ints_l, ↓inta_n, ↓inta_l, ↓inta_t, ↓W_exi, ↓W_chain, ↓W_not, ↓W_and, ↓W_or, ↓W_ife, ↓W_tup, ↓W_lst, ↓W_call, ↓W_frz, ↓W_mkbox, ↓W_app, ↓W_enil, ↓W_econs, ↓W_rng1, ↓W_rng2, ↓W_seq, ↓W_asg, ↓W_asgO, ↓W_asgT, ↓W_aug, ↓W_setix, ↓W_expr, ↓W_ret, ↓W_retN, ↓W_pass, ↓W_brk, ↓W_cont, ↓W_raise, ↓W_if, ↓W_for, ↓W_nil, ↓W_cons, ↓W_try, ↓W_ok, ↓W_exc, ↓WC_ok, ↓WC_exc, ↓WK_ok, ↓WK_exc, ↓TW_b, ↓DW_v, ↓DW_n, ↓IT_t, ↓IT_f, ↓IT_dt, ↓IT_df, IT_d, ↓IT_e1, ↓IT_e2, ↓IT_e3, ↓IT_e4, ↓IT_n, ↓IT_a, ↓SlW_v, ↓SlW_o, ↓OW_s, ↓FW_nx, ↓FW_rt, ↓FW_bk, ↓FW_ct, ↓RW_v, ↓RW_n, ↓RW_o, ↓bh_v, ↓bh_n, ↓bh_o, ↓Gam_glob, ↓D_add, ↓D_sub, ↓D_mul, ↓D_fdiv, ↓D_mod, ↓D_band, ↓D_bor, ↓D_bxor, ↓D_shl, ↓D_shr, ↓D_lt, ↓D_le, ↓D_gt, ↓D_ge, ↓D_eqi, ↓D_nei, ↓D_eqb,  ↓D_neb, ↓D_isN, ↓D_inN, ↓D_isi1, ↓D_ini1, ↓D_ist1, ↓D_int1, ↓D_isl1, ↓D_inl1, ↓D_isn1, ↓D_inn1, ↓D_isb1, ↓D_inb1, ↓D_neg, ↓D_abs, ↓D_int, ↓D_intb, ↓D_lenT, ↓D_lenL, ↓D_lenS, ↓D_lenN, ↓D_lenB, ↓D_lenO, ↓D_max, ↓D_min, ↓D_ixT, ↓D_ixL, ↓D_ixS, ↓D_ixN, ↓D_ixB, ↓D_ixO, ↓D_setB, ↓D_setO, ↓D_appO, ↓D_lof, ↓D_catNN, ↓D_catNL, ↓D_catLN, ↓D_catLL, ↓D_ii, ↓D_ib, ↓D_bi, ↓D_bb, ↓BW_s, ↓OnW_s, ↓OnB_s, ↓VW_rv, ↓VW_rn, ↓VW_nx, ↓RV_rv, ↓at0, ↓at1, ↓at2, ↓at3, ↓Au_add, ↓Au_sub, ↓Au_bor, ↓Au_mul, ↓sT0, ↓sTS, ↓I1W_i, ↓I2W_i, ↓I3W_l, ↓I3W_s, ↓I3W_t, ↓I3W_n, ↓stepQ_nx, ↓stepQ_ct, ↓stepQ_bk, ↓stepQ_rt, ↓sE, ↓eg0, ↓egS, ↓st0, ↓stS, ↓true_and, ↓and_true, ↓eq_self, ↓isF_v, ↓isF_n, ↓decide_true, ↓decide_false, ↓Bool.not_true, ↓Bool.not_false, List.set_cons_zero, List.set_cons_succ, decide_true]
end EV
namespace EV
open PySem PySem.Spec PyProof.Rows L2
/-! sets of cards as masks -/
theorem band_nat (m n : Nat) : Builtin.bitAnd (m : Int) (n : Int) = ((m &&& n : Nat) : Int) := by
  unfold Builtin.bitAnd
  have h1 : decide (0 ≤ (m : Int)) = true := decide_eq_true (by omega)
  have h2 : decide (0 ≤ (n : Int)) = true := decide_eq_true (by omega)
  rw [h1, h2]
  show ((((m : Int).toNat &&& (n : Int).toNat : Nat)) : Int) = _
  rw [Int.toNat_natCast, Int.toNat_natCast]
theorem bnot_eq (i : Int) : Builtin.bitNot i = -i - 1 := by
  unfold Builtin.bitNot; omega
theorem bor_nat (m n : Nat) : Builtin.bitOr (m : Int) (n : Int) = ((m ||| n : Nat) : Int) := by
  unfold Builtin.bitOr Builtin.bitAnd
  have h1 : decide (0 ≤ Builtin.bitNot (m : Int)) = false := decide_eq_false (by rw [bnot_eq]; omega)
  have h2 : decide (0 ≤ Builtin.bitNot (n : Int)) = false := decide_eq_false (by rw [bnot_eq]; omega)
  rw [h1, h2]
  show Builtin.bitNot (Builtin.bitNot (((Builtin.bitNot (Builtin.bitNot (m : Int))).toNat ||| (Builtin.bitNot (Builtin.bitNot (n : Int))).toNat : Nat) : Int)) = _
  have hh : ∀ i : Int, Builtin.bitNot (Builtin.bitNot i) = i := fun i => by rw [bnot_eq, bnot_eq]; omega
  rw [hh, hh, hh, Int.toNat_natCast, Int.toNat_natCast]
theorem shr_nat (m c : Nat) : (m : Int) / 2 ^ c = ((m >>> c : Nat) : Int) := by
  rw [Nat.shiftRight_eq_div_pow]
  push_cast
  rfl
/-- the test of the bits: mask >> card & 1 -/
theorem bit_test (m c : Nat) : Builtin.bitAnd ((m : Int) / 2 ^ c) 1 = if m.testBit c then 1 else 0 := by
  rw [shr_nat]
  have h := band_nat (m >>> c) 1
  rw [show ((1 : Nat) : Int) = 1 from rfl] at h
  rw [h, Nat.and_one_is_mod, Nat.shiftRight_eq_div_pow, Nat.testBit_eq_decide_div_mod_eq]
  by_cases hb : m / 2 ^ c % 2 = 1
  · rw [hb]; simp
  · have : m / 2 ^ c % 2 = 0 := by omega
    rw [this]; simp
theorem shl_nat (c : Nat) : (1 : Int) * 2 ^ c = ((2 ^ c : Nat) : Int) := by push_cast; omega
/-- the cards of a mask, in order -/
def cardsN (m n : Nat) : List Nat := (List.range n).filter m.testBit
theorem cardsN_mem (m n i : Nat) : i ∈ cardsN m n ↔ i < n ∧ m.testBit i = true := by
  unfold cardsN; rw [List.mem_filter, List.mem_range]
theorem cardsN_ext (m a b : Nat) (ha : m < 2 ^ a) (hb : m < 2 ^ b) : cardsN m a = cardsN m b := by
  have key : ∀ n k, m < 2 ^ n → cardsN m (n + k) = cardsN m n := by
    intro n k hn
    induction k with
    | zero => rfl
    | succ k ih =>
      have e : cardsN m (n + (k + 1)) = cardsN m (n + k) ++ (if m.testBit (n + k) then [n + k] else []) := by
        unfold cardsN
        rw [← Nat.add_assoc, List.range_succ, List.filter_append]
        congr 1
        cases hb : m.testBit (n + k) <;> simp [hb]
      rw [e, ih, Nat.testBit_lt_two_pow (Nat.lt_of_lt_of_le hn (Nat.pow_le_pow_right (by omega) (by omega)))]
      simp
  rcases Nat.le_total a b with h | h
  · have := key a (b - a) ha
    rw [show a + (b - a) = b by omega] at this
    exact this.symm
  · have := key b (a - b) hb
    rw [show b + (a - b) = a by omega] at this
    exact this
theorem bits_lt (m : Nat) : m < 2 ^ (Builtin.Int.intBits (m : Int)) := by
  unfold Builtin.Int.intBits
  by_cases h : m = 0
  · subst h; decide
  · have : ((m : Int) == 0) = false := by simp; exact h
    rw [this]
    simp only [Bool.false_eq_true, if_false, Int.natAbs_natCast]
    exact Nat.lt_log2_self
/-- the or of the cards -/
def maskN (cs : List Nat) : Nat := cs.foldl (fun m c => m ||| 2 ^ c) 0
theorem maskN_snoc (cs : List Nat) (c : Nat) : maskN (cs ++ [c]) = maskN cs ||| 2 ^ c := by
  unfold maskN; rw [List.foldl_append]; rfl
theorem maskF_bit (cs : List Nat) : ∀ (m i : Nat), (cs.foldl (fun m c => m ||| 2 ^ c) m).testBit i = (m.testBit i || decide (i ∈ cs)) := by
  induction cs with
  | nil => intro m i; simp
  | cons c cs ih =>
    intro m i
    rw [List.foldl_cons, ih, Nat.testBit_or, Nat.testBit_two_pow]
    by_cases h : c = i
    · subst h; simp
    · have : i ≠ c := fun e => h e.symm
      simp [h, this]
theorem maskN_bit (cs : List Nat) (i : Nat) : (maskN cs).testBit i = decide (i ∈ cs) := by
  unfold maskN; rw [maskF_bit]; simp
theorem maskN_cards (m n : Nat) (h : m < 2 ^ n) : maskN (cardsN m n) = m := by
  apply Nat.eq_of_testBit_eq
  intro i
  rw [maskN_bit]
  by_cases hi : i < n
  · cases hb : m.testBit i
    · simp [cardsN_mem, hb]
    · simp [cardsN_mem, hb, hi]
  · rw [Nat.testBit_lt_two_pow (Nat.lt_of_lt_of_le h (Nat.pow_le_pow_right (by omega) (by omega)))]
    simp [cardsN_mem, hi]
theorem maskN_lt (cs : List Nat) (n : Nat) (h : ∀ c ∈ cs, c < n) : maskN cs < 2 ^ n := by
  apply Nat.lt_pow_two_of_testBit
  intro i hi
  rw [maskN_bit]
  simp only [decide_eq_false_iff_not]
  intro hm
  have := h i hm
  omega
def natsD (cs : List Nat) : List Dt := cs.map fun (c : Nat) => Dt.int c
theorem natsD_ints (cs : List Nat) : natsD cs = (cs.map fun (c : Nat) => (c : Int)).map Dt.int := by
  unfold natsD; rw [List.map_map]; rfl
/-! the defs -/
def bCards : Ss := (.cons (.ret (.comp (.var 1) (.rng1 (.bits (.var 0))) (.name 1) (.cmp .eq (.bin .band (.bin .shr (.var 0) (.var 1)) (.cst (.int 1))) (.cst (.int 1))) [1]))
  .nil)
theorem rngD_filter (m n : Nat) : (rngD 0 n).filter (fun d => match d with | .int i => m.testBit i.toNat | _ => false) = natsD (cardsN m n) := by
  unfold rngD natsD cardsN
  generalize List.range n = l
  induction l with
  | nil => rfl
  | cons x xs ih =>
    rw [List.map_cons, List.filter_cons, List.filter_cons, ih]
    have e : (0 + (x : Int)).toNat = x := by omega
    show (if m.testBit (0 + (x : Int)).toNat = true then _ else _) = _
    rw [e]
    by_cases h : m.testBit x = true
    · rw [if_pos h, if_pos h, List.map_cons]
      rw [show (0 + (x : Int)) = (x : Int) by omega]
    · rw [if_neg h, if_neg h]
theorem W_cards {Γ : Gm} {m n : Nat} {i : Nat} {e : E} {env : List Sl} {T : List Ob} {ro : Bool} {Q : Hd → Sta → Prop} {X : Nat → Sta → Prop} {sl : Sl} (he : env[i]? = some sl) (ho : sl.isOwn = false) (hn : n ≤ sizeLine)
    (hv : ∀ c : Nat, c < n → W (evE Γ e ⟨env.set i (.val (.int c)), T, ro⟩) (fun h s => h = .val (.int m) ∧ s = ⟨env.set i (.val (.int c)), T, ro⟩) (fun _ _ => False))
    (hi : i < env.length) (hq : Q (.new (natsD (cardsN m n))) ⟨env, T, ro⟩) :
    CW Γ (.var i) (.name i) (.cmp .eq (.bin .band (.bin .shr e (.var i)) (.cst (.int 1))) (.cst (.int 1))) [i] (.rng 0 n) ⟨env, T, ro⟩ Q X ⟨⟩ := by
  refine W_comp_pure (items_r 0 n) (fun d => match d with | .int i => m.testBit i.toNat | _ => false) id (sl := sl) he ho (by rw [rngD_len]; exact hn) ?_ ?_ ?_
  · intro d hd
    obtain ⟨c, hc, rfl⟩ := List.mem_map.1 hd
    have hc : c < n := by simpa using hc
    rw [Int.zero_add]
    have gi : (env.set i (.val (.int c)))[i]? = some (.val (.int c)) := by simp [hi]
    rw [W_cmp, W_bin, W_bin]
    refine W_mono (hv c hc) ?_ (fun _ _ h => h.elim)
    rintro h s ⟨rfl, rfl⟩
    have e1 : ((c : Int)).toNat = c := by omega
    simp -implicitDefEqProofs -dsimp (disch := omega) only [↓W_dt, ↓W_fld, ↓W_meth, ↓W_make, ↓MkW_n, ↓W_popl, ↓W_setf, ↓W_augx, ↓W_asgM, ↓Gam_ncl, ↓EnW_l, ↓EnW_s, ↓EnW_n, ↓EnW_f, ↓EnW_b, ↓LG_rng, ↓LG_seq, ↓LG_enum, ↓LG_zip, ↓LG_str, ↓LG_seqR, ↓LG_enumR, ↓I3W_f, ↓I3W_b, ↓InW_s, ↓FdW_v, ↓FdW_o, ↓FdW_d, ↓InB_s, ↓D_fld, ↓D_meth, ↓D_setf, ↓SO_v, ↓SO_n, ↓SO_nf, ↓SO_d, ↓sq_f, ↓live_f, ↓live_b, ↓D_lenF, ↓D_ixF, ↓D_appF, ↓D_setF, ↓D_poplF, ↓D_lofF, ↓tp0, ↓tpS, ↓bh_f, ↓CG_rng, ↓CG_seq, ↓CG_enum, ↓CG_zip, ↓CG_str, ↓CG_seqR, ↓CG_enumR, ↓W_var, ↓W_cst, ↓W_glob, ↓W_bin, ↓W_cmp, ↓W_ix, ↓W_un, ↓W_blt, ↓W_blt2, ↓W_isi, ↓W_bits, ↓W_idx, ↓W_find, ↓W_pop, ↓W_dnew, ↓W_dix, ↓W_din, ↓W_sset, ↓D_sset, ↓W_lrg1, ↓W_lrg2, ↓W_dput, ↓StW_s, ↓ViW_i, ↓VaW_v, ↓SlW_d, ↓bh_nd, ↓OdW_s, ↓LnW_o, ↓LnW_d, ↓D_pop, ↓D_dixI, ↓D_dixS, ↓D_dinI, ↓D_dinS, ↓D_dputI, ↓D_dputS, ↓D_find, ↓D_lrg, ↓W_enum, ↓W_zip, ↓W_istr, ↓lstP_l, ↓lstP_s, ↓lstP_n, ↓lstQ_l, ↓W_revl, ↓W_revs, ↓W_sl, ↓W_bind, ↓W_partT, ↓W_partF, ↓PaW_i, ↓D_list, ↓D_tuple, ↓D_sum, ↓D_sorted, ↓D_maxl, ↓D_minl, ↓D_str, ↓D_bits, ↓D_revS, ↓D_revL, ↓D_revN, ↓seq_t, ↓seq_l, ↓seq_s, ↓seq_n, ↓seq_b, ↓seq_o, ↓ints_n, ↓ints_l, ↓inta_n, ↓inta_l, ↓inta_t, ↓W_exi, ↓W_chain, ↓W_not, ↓W_and, ↓W_or, ↓W_ife, ↓W_tup, ↓W_lst, ↓W_call, ↓W_frz, ↓W_mkbox, ↓W_app, ↓W_enil, ↓W_econs, ↓W_rng1, ↓W_rng2, ↓W_seq, ↓W_asg, ↓W_asgO, ↓W_asgT, ↓W_aug, ↓W_setix, ↓W_expr, ↓W_ret, ↓W_retN, ↓W_pass, ↓W_brk, ↓W_cont, ↓W_raise, ↓W_if, ↓W_for, ↓W_nil, ↓W_cons, ↓W_try, ↓W_ok, ↓W_exc, ↓WC_ok, ↓WC_exc, ↓WK_ok, ↓WK_exc, ↓TW_b, ↓DW_v, ↓DW_n, ↓IT_t, ↓IT_f, ↓IT_dt, ↓IT_df, IT_d, ↓IT_e1, ↓IT_e2, ↓IT_e3, ↓IT_e4, ↓IT_n, ↓IT_a, ↓SlW_v, ↓SlW_o, ↓OW_s, ↓FW_nx, ↓FW_rt, ↓FW_bk, ↓FW_ct, ↓RW_v, ↓RW_n, ↓RW_o, ↓bh_v, ↓bh_n, ↓bh_o, ↓Gam_glob, ↓D_add, ↓D_sub, ↓D_mul, ↓D_fdiv, ↓D_mod, ↓D_band, ↓D_bor, ↓D_bxor, ↓D_shl, ↓D_shr, ↓D_lt, ↓D_le, ↓D_gt, ↓D_ge, ↓D_eqi, ↓D_nei, ↓D_eqb, ↓D_eqll, ↓D_nell, ↓D_eqnn, ↓D_nenn, ↓D_eqnl, ↓D_nenl, ↓D_eqln, ↓D_neln, ↓D_eqtt, ↓D_nett, ↓D_ill, ↓D_itt, ↓D_neb, ↓D_isN, ↓D_inN, ↓D_isi1, ↓D_ini1, ↓D_ist1, ↓D_int1, ↓D_isl1, ↓D_inl1, ↓D_isn1, ↓D_inn1, ↓D_isb1, ↓D_inb1, ↓D_neg, ↓D_abs, ↓D_int, ↓D_intb, ↓D_lenT, ↓D_lenL, ↓D_lenS, ↓D_lenN, ↓D_lenB, ↓D_lenO, ↓D_max, ↓D_min, ↓D_ixT, ↓D_ixL, ↓D_ixS, ↓D_ixN, ↓D_ixB, ↓D_ixO, ↓D_setB, ↓D_setO, ↓D_appO, ↓D_lof, ↓D_catNN, ↓D_catNL, ↓D_catLN, ↓D_catLL, ↓D_ii, ↓D_ib, ↓D_bi, ↓D_bb, ↓BW_s, ↓OnW_s, ↓OnB_s, ↓VW_rv, ↓VW_rn, ↓VW_nx, ↓RV_rv, ↓at0, ↓at1, ↓at2, ↓at3, ↓Au_add, ↓Au_sub, ↓Au_bor, ↓Au_mul, ↓sT0, ↓sTS, ↓I1W_i, ↓I2W_i, ↓I3W_l, ↓I3W_s, ↓I3W_t, ↓I3W_n, ↓stepQ_nx, ↓stepQ_ct, ↓stepQ_bk, ↓stepQ_rt, ↓sE, ↓eg0, ↓egS, ↓st0, ↓stS, ↓true_and, ↓and_true, ↓eq_self, ↓isF_v, ↓isF_n, ↓decide_true, ↓decide_false, ↓Bool.not_true, ↓Bool.not_false, gi, e1, bit_test]
    refine ⟨by omega, ?_⟩
    cases m.testBit c <;> rfl
  · intro d hd _
    obtain ⟨c, hc, rfl⟩ := List.mem_map.1 hd
    have gi : ∀ v, (env.set i v)[i]? = some v := fun v => by simp [hi]
    simp -implicitDefEqProofs -dsimp (disch := omega) only [↓W_dt, ↓W_fld, ↓W_meth, ↓W_make, ↓MkW_n, ↓W_popl, ↓W_setf, ↓W_augx, ↓W_asgM, ↓Gam_ncl, ↓EnW_l, ↓EnW_s, ↓EnW_n, ↓EnW_f, ↓EnW_b, ↓LG_rng, ↓LG_seq, ↓LG_enum, ↓LG_zip, ↓LG_str, ↓LG_seqR, ↓LG_enumR, ↓I3W_f, ↓I3W_b, ↓InW_s, ↓FdW_v, ↓FdW_o, ↓FdW_d, ↓InB_s, ↓D_fld, ↓D_meth, ↓D_setf, ↓SO_v, ↓SO_n, ↓SO_nf, ↓SO_d, ↓sq_f, ↓live_f, ↓live_b, ↓D_lenF, ↓D_ixF, ↓D_appF, ↓D_setF, ↓D_poplF, ↓D_lofF, ↓tp0, ↓tpS, ↓bh_f, ↓CG_rng, ↓CG_seq, ↓CG_enum, ↓CG_zip, ↓CG_str, ↓CG_seqR, ↓CG_enumR, ↓W_var, ↓W_cst, ↓W_glob, ↓W_bin, ↓W_cmp, ↓W_ix, ↓W_un, ↓W_blt, ↓W_blt2, ↓W_isi, ↓W_bits, ↓W_idx, ↓W_find, ↓W_pop, ↓W_dnew, ↓W_dix, ↓W_din, ↓W_sset, ↓D_sset, ↓W_lrg1, ↓W_lrg2, ↓W_dput, ↓StW_s, ↓ViW_i, ↓VaW_v, ↓SlW_d, ↓bh_nd, ↓OdW_s, ↓LnW_o, ↓LnW_d, ↓D_pop, ↓D_dixI, ↓D_dixS, ↓D_dinI, ↓D_dinS, ↓D_dputI, ↓D_dputS, ↓D_find, ↓D_lrg, ↓W_enum, ↓W_zip, ↓W_istr, ↓lstP_l, ↓lstP_s, ↓lstP_n, ↓lstQ_l, ↓W_revl, ↓W_revs, ↓W_sl, ↓W_bind, ↓W_partT, ↓W_partF, ↓PaW_i, ↓D_list, ↓D_tuple, ↓D_sum, ↓D_sorted, ↓D_maxl, ↓D_minl, ↓D_str, ↓D_bits, ↓D_revS, ↓D_revL, ↓D_revN, ↓seq_t, ↓seq_l, ↓seq_s, ↓seq_n, ↓seq_b, ↓seq_o, ↓ints_n, ↓ints_l, ↓inta_n, ↓inta_l, ↓inta_t, ↓W_exi, ↓W_chain, ↓W_not, ↓W_and, ↓W_or, ↓W_ife, ↓W_tup, ↓W_lst, ↓W_call, ↓W_frz, ↓W_mkbox, ↓W_app, ↓W_enil, ↓W_econs, ↓W_rng1, ↓W_rng2, ↓W_seq, ↓W_asg, ↓W_asgO, ↓W_asgT, ↓W_aug, ↓W_setix, ↓W_expr, ↓W_ret, ↓W_retN, ↓W_pass, ↓W_brk, ↓W_cont, ↓W_raise, ↓W_if, ↓W_for, ↓W_nil, ↓W_cons, ↓W_try, ↓W_ok, ↓W_exc, ↓WC_ok, ↓WC_exc, ↓WK_ok, ↓WK_exc, ↓TW_b, ↓DW_v, ↓DW_n, ↓IT_t, ↓IT_f, ↓IT_dt, ↓IT_df, IT_d, ↓IT_e1, ↓IT_e2, ↓IT_e3, ↓IT_e4, ↓IT_n, ↓IT_a, ↓SlW_v, ↓SlW_o, ↓OW_s, ↓FW_nx, ↓FW_rt, ↓FW_bk, ↓FW_ct, ↓RW_v, ↓RW_n, ↓RW_o, ↓bh_v, ↓bh_n, ↓bh_o, ↓Gam_glob, ↓D_add, ↓D_sub, ↓D_mul, ↓D_fdiv, ↓D_mod, ↓D_band, ↓D_bor, ↓D_bxor, ↓D_shl, ↓D_shr, ↓D_lt, ↓D_le, ↓D_gt, ↓D_ge, ↓D_eqi, ↓D_nei, ↓D_eqb, ↓D_eqll, ↓D_nell, ↓D_eqnn, ↓D_nenn, ↓D_eqnl, ↓D_nenl, ↓D_eqln, ↓D_neln, ↓D_eqtt, ↓D_nett, ↓D_ill, ↓D_itt, ↓D_neb, ↓D_isN, ↓D_inN, ↓D_isi1, ↓D_ini1, ↓D_ist1, ↓D_int1, ↓D_isl1, ↓D_inl1, ↓D_isn1, ↓D_inn1, ↓D_isb1, ↓D_inb1, ↓D_neg, ↓D_abs, ↓D_int, ↓D_intb, ↓D_lenT, ↓D_lenL, ↓D_lenS, ↓D_lenN, ↓D_lenB, ↓D_lenO, ↓D_max, ↓D_min, ↓D_ixT, ↓D_ixL, ↓D_ixS, ↓D_ixN, ↓D_ixB, ↓D_ixO, ↓D_setB, ↓D_setO, ↓D_appO, ↓D_lof, ↓D_catNN, ↓D_catNL, ↓D_catLN, ↓D_catLL, ↓D_ii, ↓D_ib, ↓D_bi, ↓D_bb, ↓BW_s, ↓OnW_s, ↓OnB_s, ↓VW_rv, ↓VW_rn, ↓VW_nx, ↓RV_rv, ↓at0, ↓at1, ↓at2, ↓at3, ↓Au_add, ↓Au_sub, ↓Au_bor, ↓Au_mul, ↓sT0, ↓sTS, ↓I1W_i, ↓I2W_i, ↓I3W_l, ↓I3W_s, ↓I3W_t, ↓I3W_n, ↓stepQ_nx, ↓stepQ_ct, ↓stepQ_bk, ↓stepQ_rt, ↓sE, ↓eg0, ↓egS, ↓st0, ↓stS, ↓true_and, ↓and_true, ↓eq_self, ↓isF_v, ↓isF_n, ↓decide_true, ↓decide_false, ↓Bool.not_true, ↓Bool.not_false, gi]
    rfl
  · rw [List.map_id, rngD_filter]
    exact hq
theorem cards_run {p : Prg} {f : Nat} (hf : p.fn f = ⟨2, bCards⟩) (ha : p.ar f = 1) {k : Nat} (hk : 0 < k) (m n : Nat) (h : m < 2 ^ n) (hn : n ≤ 100000) (ro : Bool) (T : List Ob) :
    run p k f ro [.int m] T = .ok (.new (natsD (cardsN m n))) T := by
  have zl : sizeLine = 16777216 := rfl
  have hb : Builtin.Int.intBits (m : Int) ≤ n := by
    unfold Builtin.Int.intBits
    by_cases h0 : m = 0
    · subst h0; exact Nat.zero_le _
    · have : ((m : Int) == 0) = false := by simp; exact h0
      rw [this]
      simp only [Bool.false_eq_true, if_false, Int.natAbs_natCast]
      exact (Nat.log2_lt h0).2 h
  refine WC_eq (WC_run (by rw [ha]; rfl) hf hk ?_)
  have e := cardsN_ext m _ n (bits_lt m) h
  have hb0 : 0 ≤ ((Builtin.Int.intBits (m : Int) : Nat) : Int) := by omega
  simp -implicitDefEqProofs -dsimp (disch := omega) only [bCards, List.map, List.length, List.replicate, List.cons_append, List.nil_append, ↓W_dt, ↓W_fld, ↓W_meth, ↓W_make, ↓MkW_n, ↓W_popl, ↓W_setf, ↓W_augx, ↓W_asgM, ↓Gam_ncl, ↓EnW_l, ↓EnW_s, ↓EnW_n, ↓EnW_f, ↓EnW_b, ↓LG_rng, ↓LG_seq, ↓LG_enum, ↓LG_zip, ↓LG_str, ↓LG_seqR, ↓LG_enumR, ↓I3W_f, ↓I3W_b, ↓InW_s, ↓FdW_v, ↓FdW_o, ↓FdW_d, ↓InB_s, ↓D_fld, ↓D_meth, ↓D_setf, ↓SO_v, ↓SO_n, ↓SO_nf, ↓SO_d, ↓sq_f, ↓live_f, ↓live_b, ↓D_lenF, ↓D_ixF, ↓D_appF, ↓D_setF, ↓D_poplF, ↓D_lofF, ↓tp0, ↓tpS, ↓bh_f, ↓CG_rng, ↓CG_seq, ↓CG_enum, ↓CG_zip, ↓CG_str, ↓CG_seqR, ↓CG_enumR, ↓W_var, ↓W_cst, ↓W_glob, ↓W_bin, ↓W_cmp, ↓W_ix, ↓W_un, ↓W_blt, ↓W_blt2, ↓W_isi, ↓W_bits, ↓W_idx, ↓W_find, ↓W_pop, ↓W_dnew, ↓W_dix, ↓W_din, ↓W_sset, ↓D_sset, ↓W_lrg1, ↓W_lrg2, ↓W_dput, ↓StW_s, ↓ViW_i, ↓VaW_v, ↓SlW_d, ↓bh_nd, ↓OdW_s, ↓LnW_o, ↓LnW_d, ↓D_pop, ↓D_dixI, ↓D_dixS, ↓D_dinI, ↓D_dinS, ↓D_dputI, ↓D_dputS, ↓D_find, ↓D_lrg, ↓W_enum, ↓W_zip, ↓W_istr, ↓lstP_l, ↓lstP_s, ↓lstP_n, ↓lstQ_l, ↓W_revl, ↓W_revs, ↓W_sl, ↓W_bind, ↓W_partT, ↓W_partF, ↓PaW_i, ↓D_list, ↓D_tuple, ↓D_sum, ↓D_sorted, ↓D_maxl, ↓D_minl, ↓D_str, ↓D_bits, ↓D_revS, ↓D_revL, ↓D_revN, ↓seq_t, ↓seq_l, ↓seq_s, ↓seq_n, ↓seq_b, ↓seq_o, ↓ints_n, ↓ints_l, ↓inta_n, ↓inta_l, ↓inta_t, ↓W_exi, ↓W_chain, ↓W_not, ↓W_and, ↓W_or, ↓W_ife, ↓W_tup, ↓W_lst, ↓W_call, ↓W_frz, ↓W_mkbox, ↓W_app, ↓W_enil, ↓W_econs, ↓W_rng1, ↓W_rng2, ↓W_seq, ↓W_asg, ↓W_asgO, ↓W_asgT, ↓W_aug, ↓W_setix, ↓W_expr, ↓W_ret, ↓W_retN, ↓W_pass, ↓W_brk, ↓W_cont, ↓W_raise, ↓W_if, ↓W_for, ↓W_nil, ↓W_cons, ↓W_try, ↓W_ok, ↓W_exc, ↓WC_ok, ↓WC_exc, ↓WK_ok, ↓WK_exc, ↓TW_b, ↓DW_v, ↓DW_n, ↓IT_t, ↓IT_f, ↓IT_dt, ↓IT_df, IT_d, ↓IT_e1, ↓IT_e2, ↓IT_e3, ↓IT_e4, ↓IT_n, ↓IT_a, ↓SlW_v, ↓SlW_o, ↓OW_s, ↓FW_nx, ↓FW_rt, ↓FW_bk, ↓FW_ct, ↓RW_v, ↓RW_n, ↓RW_o, ↓bh_v, ↓bh_n, ↓bh_o, ↓Gam_glob, ↓D_add, ↓D_sub, ↓D_mul, ↓D_fdiv, ↓D_mod, ↓D_band, ↓D_bor, ↓D_bxor, ↓D_shl, ↓D_shr, ↓D_lt, ↓D_le, ↓D_gt, ↓D_ge, ↓D_eqi, ↓D_nei, ↓D_eqb, ↓D_eqll, ↓D_nell, ↓D_eqnn, ↓D_nenn, ↓D_eqnl, ↓D_nenl, ↓D_eqln, ↓D_neln, ↓D_eqtt, ↓D_nett, ↓D_ill, ↓D_itt, ↓D_neb, ↓D_isN, ↓D_inN, ↓D_isi1, ↓D_ini1, ↓D_ist1, ↓D_int1, ↓D_isl1, ↓D_inl1, ↓D_isn1, ↓D_inn1, ↓D_isb1, ↓D_inb1, ↓D_neg, ↓D_abs, ↓D_int, ↓D_intb, ↓D_lenT, ↓D_lenL, ↓D_lenS, ↓D_lenN, ↓D_lenB, ↓D_lenO, ↓D_max, ↓D_min, ↓D_ixT, ↓D_ixL, ↓D_ixS, ↓D_ixN, ↓D_ixB, ↓D_ixO, ↓D_setB, ↓D_setO, ↓D_appO, ↓D_lof, ↓D_catNN, ↓D_catNL, ↓D_catLN, ↓D_catLL, ↓D_ii, ↓D_ib, ↓D_bi, ↓D_bb, ↓BW_s, ↓OnW_s, ↓OnB_s, ↓VW_rv, ↓VW_rn, ↓VW_nx, ↓RV_rv, ↓at0, ↓at1, ↓at2, ↓at3, ↓Au_add, ↓Au_sub, ↓Au_bor, ↓Au_mul, ↓sT0, ↓sTS, ↓I1W_i, ↓I2W_i, ↓I3W_l, ↓I3W_s, ↓I3W_t, ↓I3W_n, ↓stepQ_nx, ↓stepQ_ct, ↓stepQ_bk, ↓stepQ_rt, ↓sE, ↓eg0, ↓egS, ↓st0, ↓stS, ↓true_and, ↓and_true, ↓eq_self, ↓isF_v, ↓isF_n, ↓decide_true, ↓decide_false, ↓Bool.not_true, ↓Bool.not_false, List.set_cons_zero, List.set_cons_succ, ↓W_comp, Int.toNat_natCast]
  refine ⟨smallR_in _ _ (by omega) (by omega) (by omega) (by omega), W_cards (m := m) (sl := .none) ?_ ?_ ?_ ?_ ?_ ?_⟩
  · rfl
  · rfl
  · omega
  · intro c hc
    simp -implicitDefEqProofs -dsimp (disch := omega) only [List.map, List.length, List.replicate, List.cons_append, List.nil_append, ↓W_dt, ↓W_fld, ↓W_meth, ↓W_make, ↓MkW_n, ↓W_popl, ↓W_setf, ↓W_augx, ↓W_asgM, ↓Gam_ncl, ↓EnW_l, ↓EnW_s, ↓EnW_n, ↓EnW_f, ↓EnW_b, ↓LG_rng, ↓LG_seq, ↓LG_enum, ↓LG_zip, ↓LG_str, ↓LG_seqR, ↓LG_enumR, ↓I3W_f, ↓I3W_b, ↓InW_s, ↓FdW_v, ↓FdW_o, ↓FdW_d, ↓InB_s, ↓D_fld, ↓D_meth, ↓D_setf, ↓SO_v, ↓SO_n, ↓SO_nf, ↓SO_d, ↓sq_f, ↓live_f, ↓live_b, ↓D_lenF, ↓D_ixF, ↓D_appF, ↓D_setF, ↓D_poplF, ↓D_lofF, ↓tp0, ↓tpS, ↓bh_f, ↓CG_rng, ↓CG_seq, ↓CG_enum, ↓CG_zip, ↓CG_str, ↓CG_seqR, ↓CG_enumR, ↓W_var, ↓W_cst, ↓W_glob, ↓W_bin, ↓W_cmp, ↓W_ix, ↓W_un, ↓W_blt, ↓W_blt2, ↓W_isi, ↓W_bits, ↓W_idx, ↓W_find, ↓W_pop, ↓W_dnew, ↓W_dix, ↓W_din, ↓W_sset, ↓D_sset, ↓W_lrg1, ↓W_lrg2, ↓W_dput, ↓StW_s, ↓ViW_i, ↓VaW_v, ↓SlW_d, ↓bh_nd, ↓OdW_s, ↓LnW_o, ↓LnW_d, ↓D_pop, ↓D_dixI, ↓D_dixS, ↓D_dinI, ↓D_dinS, ↓D_dputI, ↓D_dputS, ↓D_find, ↓D_lrg, ↓W_enum, ↓W_zip, ↓W_istr, ↓lstP_l, ↓lstP_s, ↓lstP_n, ↓lstQ_l, ↓W_revl, ↓W_revs, ↓W_sl, ↓W_bind, ↓W_partT, ↓W_partF, ↓PaW_i, ↓D_list, ↓D_tuple, ↓D_sum, ↓D_sorted, ↓D_maxl, ↓D_minl, ↓D_str, ↓D_bits, ↓D_revS, ↓D_revL, ↓D_revN, ↓seq_t, ↓seq_l, ↓seq_s, ↓seq_n, ↓seq_b, ↓seq_o, ↓ints_n, ↓ints_l, ↓inta_n, ↓inta_l, ↓inta_t, ↓W_exi, ↓W_chain, ↓W_not, ↓W_and, ↓W_or, ↓W_ife, ↓W_tup, ↓W_lst, ↓W_call, ↓W_frz, ↓W_mkbox, ↓W_app, ↓W_enil, ↓W_econs, ↓W_rng1, ↓W_rng2, ↓W_seq, ↓W_asg, ↓W_asgO, ↓W_asgT, ↓W_aug, ↓W_setix, ↓W_expr, ↓W_ret, ↓W_retN, ↓W_pass, ↓W_brk, ↓W_cont, ↓W_raise, ↓W_if, ↓W_for, ↓W_nil, ↓W_cons, ↓W_try, ↓W_ok, ↓W_exc, ↓WC_ok, ↓WC_exc, ↓WK_ok, ↓WK_exc, ↓TW_b, ↓DW_v, ↓DW_n, ↓IT_t, ↓IT_f, ↓IT_dt, ↓IT_df, IT_d, ↓IT_e1, ↓IT_e2, ↓IT_e3, ↓IT_e4, ↓IT_n, ↓IT_a, ↓SlW_v, ↓SlW_o, ↓OW_s, ↓FW_nx, ↓FW_rt, ↓FW_bk, ↓FW_ct, ↓RW_v, ↓RW_n, ↓RW_o, ↓bh_v, ↓bh_n, ↓bh_o, ↓Gam_glob, ↓D_add, ↓D_sub, ↓D_mul, ↓D_fdiv, ↓D_mod, ↓D_band, ↓D_bor, ↓D_bxor, ↓D_shl, ↓D_shr, ↓D_lt, ↓D_le, ↓D_gt, ↓D_ge, ↓D_eqi, ↓D_nei, ↓D_eqb, ↓D_eqll, ↓D_nell, ↓D_eqnn, ↓D_nenn, ↓D_eqnl, ↓D_nenl, ↓D_eqln, ↓D_neln, ↓D_eqtt, ↓D_nett, ↓D_ill, ↓D_itt, ↓D_neb, ↓D_isN, ↓D_inN, ↓D_isi1, ↓D_ini1, ↓D_ist1, ↓D_int1, ↓D_isl1, ↓D_inl1, ↓D_isn1, ↓D_inn1, ↓D_isb1, ↓D_inb1, ↓D_neg, ↓D_abs, ↓D_int, ↓D_intb, ↓D_lenT, ↓D_lenL, ↓D_lenS, ↓D_lenN, ↓D_lenB, ↓D_lenO, ↓D_max, ↓D_min, ↓D_ixT, ↓D_ixL, ↓D_ixS, ↓D_ixN, ↓D_ixB, ↓D_ixO, ↓D_setB, ↓D_setO, ↓D_appO, ↓D_lof, ↓D_catNN, ↓D_catNL, ↓D_catLN, ↓D_catLL, ↓D_ii, ↓D_ib, ↓D_bi, ↓D_bb, ↓BW_s, ↓OnW_s, ↓OnB_s, ↓VW_rv, ↓VW_rn, ↓VW_nx, ↓RV_rv, ↓at0, ↓at1, ↓at2, ↓at3, ↓Au_add, ↓Au_sub, ↓Au_bor, ↓Au_mul, ↓sT0, ↓sTS, ↓I1W_i, ↓I2W_i, ↓I3W_l, ↓I3W_s, ↓I3W_t, ↓I3W_n, ↓stepQ_nx, ↓stepQ_ct, ↓stepQ_bk, ↓stepQ_rt, ↓sE, ↓eg0, ↓egS, ↓st0, ↓stS, ↓true_and, ↓and_true, ↓eq_self, ↓isF_v, ↓isF_n, ↓decide_true, ↓decide_false, ↓Bool.not_true, ↓Bool.not_false, List.set_cons_zero, List.set_cons_succ]
  · exact Nat.lt_succ_self 1
  · rw [e]
    simp -implicitDefEqProofs -dsimp (disch := omega) only [List.map, List.length, List.replicate, List.cons_append, List.nil_append, ↓W_dt, ↓W_fld, ↓W_meth, ↓W_make, ↓MkW_n, ↓W_popl, ↓W_setf, ↓W_augx, ↓W_asgM, ↓Gam_ncl, ↓EnW_l, ↓EnW_s, ↓EnW_n, ↓EnW_f, ↓EnW_b, ↓LG_rng, ↓LG_seq, ↓LG_enum, ↓LG_zip, ↓LG_str, ↓LG_seqR, ↓LG_enumR, ↓I3W_f, ↓I3W_b, ↓InW_s, ↓FdW_v, ↓FdW_o, ↓FdW_d, ↓InB_s, ↓D_fld, ↓D_meth, ↓D_setf, ↓SO_v, ↓SO_n, ↓SO_nf, ↓SO_d, ↓sq_f, ↓live_f, ↓live_b, ↓D_lenF, ↓D_ixF, ↓D_appF, ↓D_setF, ↓D_poplF, ↓D_lofF, ↓tp0, ↓tpS, ↓bh_f, ↓CG_rng, ↓CG_seq, ↓CG_enum, ↓CG_zip, ↓CG_str, ↓CG_seqR, ↓CG_enumR, ↓W_var, ↓W_cst, ↓W_glob, ↓W_bin, ↓W_cmp, ↓W_ix, ↓W_un, ↓W_blt, ↓W_blt2, ↓W_isi, ↓W_bits, ↓W_idx, ↓W_find, ↓W_pop, ↓W_dnew, ↓W_dix, ↓W_din, ↓W_sset, ↓D_sset, ↓W_lrg1, ↓W_lrg2, ↓W_dput, ↓StW_s, ↓ViW_i, ↓VaW_v, ↓SlW_d, ↓bh_nd, ↓OdW_s, ↓LnW_o, ↓LnW_d, ↓D_pop, ↓D_dixI, ↓D_dixS, ↓D_dinI, ↓D_dinS, ↓D_dputI, ↓D_dputS, ↓D_find, ↓D_lrg, ↓W_enum, ↓W_zip, ↓W_istr, ↓lstP_l, ↓lstP_s, ↓lstP_n, ↓lstQ_l, ↓W_revl, ↓W_revs, ↓W_sl, ↓W_bind, ↓W_partT, ↓W_partF, ↓PaW_i, ↓D_list, ↓D_tuple, ↓D_sum, ↓D_sorted, ↓D_maxl, ↓D_minl, ↓D_str, ↓D_bits, ↓D_revS, ↓D_revL, ↓D_revN, ↓seq_t, ↓seq_l, ↓seq_s, ↓seq_n, ↓seq_b, ↓seq_o, ↓ints_n, ↓ints_l, ↓inta_n, ↓inta_l, ↓inta_t, ↓W_exi, ↓W_chain, ↓W_not, ↓W_and, ↓W_or, ↓W_ife, ↓W_tup, ↓W_lst, ↓W_call, ↓W_frz, ↓W_mkbox, ↓W_app, ↓W_enil, ↓W_econs, ↓W_rng1, ↓W_rng2, ↓W_seq, ↓W_asg, ↓W_asgO, ↓W_asgT, ↓W_aug, ↓W_setix, ↓W_expr, ↓W_ret, ↓W_retN, ↓W_pass, ↓W_brk, ↓W_cont, ↓W_raise, ↓W_if, ↓W_for, ↓W_nil, ↓W_cons, ↓W_try, ↓W_ok, ↓W_exc, ↓WC_ok, ↓WC_exc, ↓WK_ok, ↓WK_exc, ↓TW_b, ↓DW_v, ↓DW_n, ↓IT_t, ↓IT_f, ↓IT_dt, ↓IT_df, IT_d, ↓IT_e1, ↓IT_e2, ↓IT_e3, ↓IT_e4, ↓IT_n, ↓IT_a, ↓SlW_v, ↓SlW_o, ↓OW_s, ↓FW_nx, ↓FW_rt, ↓FW_bk, ↓FW_ct, ↓RW_v, ↓RW_n, ↓RW_o, ↓bh_v, ↓bh_n, ↓bh_o, ↓Gam_glob, ↓D_add, ↓D_sub, ↓D_mul, ↓D_fdiv, ↓D_mod, ↓D_band, ↓D_bor, ↓D_bxor, ↓D_shl, ↓D_shr, ↓D_lt, ↓D_le, ↓D_gt, ↓D_ge, ↓D_eqi, ↓D_nei, ↓D_eqb, ↓D_eqll, ↓D_nell, ↓D_eqnn, ↓D_nenn, ↓D_eqnl, ↓D_nenl, ↓D_eqln, ↓D_neln, ↓D_eqtt, ↓D_nett, ↓D_ill, ↓D_itt, ↓D_neb, ↓D_isN, ↓D_inN, ↓D_isi1, ↓D_ini1, ↓D_ist1, ↓D_int1, ↓D_isl1, ↓D_inl1, ↓D_isn1, ↓D_inn1, ↓D_isb1, ↓D_inb1, ↓D_neg, ↓D_abs, ↓D_int, ↓D_intb, ↓D_lenT, ↓D_lenL, ↓D_lenS, ↓D_lenN, ↓D_lenB, ↓D_lenO, ↓D_max, ↓D_min, ↓D_ixT, ↓D_ixL, ↓D_ixS, ↓D_ixN, ↓D_ixB, ↓D_ixO, ↓D_setB, ↓D_setO, ↓D_appO, ↓D_lof, ↓D_catNN, ↓D_catNL, ↓D_catLN, ↓D_catLL, ↓D_ii, ↓D_ib, ↓D_bi, ↓D_bb, ↓BW_s, ↓OnW_s, ↓OnB_s, ↓VW_rv, ↓VW_rn, ↓VW_nx, ↓RV_rv, ↓at0, ↓at1, ↓at2, ↓at3, ↓Au_add, ↓Au_sub, ↓Au_bor, ↓Au_mul, ↓sT0, ↓sTS, ↓I1W_i, ↓I2W_i, ↓I3W_l, ↓I3W_s, ↓I3W_t, ↓I3W_n, ↓stepQ_nx, ↓stepQ_ct, ↓stepQ_bk, ↓stepQ_rt, ↓sE, ↓eg0, ↓egS, ↓st0, ↓stS, ↓true_and, ↓and_true, ↓eq_self, ↓isF_v, ↓isF_n, ↓decide_true, ↓decide_false, ↓Bool.not_true, ↓Bool.not_false, List.set_cons_zero, List.set_cons_succ]
def bMaskOfT : Ss := (.cons (.ret (.var 1)) .nil)
def bMaskOfB : Ss := (.cons (.asg (.name 1) false (.bin .bor (.var 1) (.bin .shl (.cst (.int 1)) (.var 2)))) .nil)
def bMaskOf : Ss :=
  (.cons (.asg (.name 1) false (.cst (.int 0)))
  (.cons (.for_ (.name 2) (.seq (.var 0)) bMaskOfB)
  bMaskOfT))
theorem maskof_run {p : Prg} {f : Nat} (hf : p.fn f = ⟨3, bMaskOf⟩) (ha : p.ar f = 1) {k : Nat} (hk : 0 < k) (cs : List Nat) (h : ∀ c ∈ cs, c ≤ 1000000) (ro : Bool) (T : List Ob) :
    run p k f ro [.lst (natsD cs)] T = .ok (.val (.int (maskN cs))) T := by
  refine WC_eq (WC_run (by rw [ha]; rfl) hf hk ?_)
  simp -implicitDefEqProofs -dsimp (disch := omega) only [bMaskOf, List.map, List.length, List.replicate, List.cons_append, List.nil_append, ↓W_dt, ↓W_fld, ↓W_meth, ↓W_make, ↓MkW_n, ↓W_popl, ↓W_setf, ↓W_augx, ↓W_asgM, ↓Gam_ncl, ↓EnW_l, ↓EnW_s, ↓EnW_n, ↓EnW_f, ↓EnW_b, ↓LG_rng, ↓LG_seq, ↓LG_enum, ↓LG_zip, ↓LG_str, ↓LG_seqR, ↓LG_enumR, ↓I3W_f, ↓I3W_b, ↓InW_s, ↓FdW_v, ↓FdW_o, ↓FdW_d, ↓InB_s, ↓D_fld, ↓D_meth, ↓D_setf, ↓SO_v, ↓SO_n, ↓SO_nf, ↓SO_d, ↓sq_f, ↓live_f, ↓live_b, ↓D_lenF, ↓D_ixF, ↓D_appF, ↓D_setF, ↓D_poplF, ↓D_lofF, ↓tp0, ↓tpS, ↓bh_f, ↓CG_rng, ↓CG_seq, ↓CG_enum, ↓CG_zip, ↓CG_str, ↓CG_seqR, ↓CG_enumR, ↓W_var, ↓W_cst, ↓W_glob, ↓W_bin, ↓W_cmp, ↓W_ix, ↓W_un, ↓W_blt, ↓W_blt2, ↓W_isi, ↓W_bits, ↓W_idx, ↓W_find, ↓W_pop, ↓W_dnew, ↓W_dix, ↓W_din, ↓W_sset, ↓D_sset, ↓W_lrg1, ↓W_lrg2, ↓W_dput, ↓StW_s, ↓ViW_i, ↓VaW_v, ↓SlW_d, ↓bh_nd, ↓OdW_s, ↓LnW_o, ↓LnW_d, ↓D_pop, ↓D_dixI, ↓D_dixS, ↓D_dinI, ↓D_dinS, ↓D_dputI, ↓D_dputS, ↓D_find, ↓D_lrg, ↓W_enum, ↓W_zip, ↓W_istr, ↓lstP_l, ↓lstP_s, ↓lstP_n, ↓lstQ_l, ↓W_revl, ↓W_revs, ↓W_sl, ↓W_bind, ↓W_partT, ↓W_partF, ↓PaW_i, ↓D_list, ↓D_tuple, ↓D_sum, ↓D_sorted, ↓D_maxl, ↓D_minl, ↓D_str, ↓D_bits, ↓D_revS, ↓D_revL, ↓D_revN, ↓seq_t, ↓seq_l, ↓seq_s, ↓seq_n, ↓seq_b, ↓seq_o, ↓ints_n, ↓ints_l, ↓inta_n, ↓inta_l, ↓inta_t, ↓W_exi, ↓W_chain, ↓W_not, ↓W_and, ↓W_or, ↓W_ife, ↓W_tup, ↓W_lst, ↓W_call, ↓W_frz, ↓W_mkbox, ↓W_app, ↓W_enil, ↓W_econs, ↓W_rng1, ↓W_rng2, ↓W_seq, ↓W_asg, ↓W_asgO, ↓W_asgT, ↓W_aug, ↓W_setix, ↓W_expr, ↓W_ret, ↓W_retN, ↓W_pass, ↓W_brk, ↓W_cont, ↓W_raise, ↓W_if, ↓W_for, ↓W_nil, ↓W_cons, ↓W_try, ↓W_ok, ↓W_exc, ↓WC_ok, ↓WC_exc, ↓WK_ok, ↓WK_exc, ↓TW_b, ↓DW_v, ↓DW_n, ↓IT_t, ↓IT_f, ↓IT_dt, ↓IT_df, IT_d, ↓IT_e1, ↓IT_e2, ↓IT_e3, ↓IT_e4, ↓IT_n, ↓IT_a, ↓SlW_v, ↓SlW_o, ↓OW_s, ↓FW_nx, ↓FW_rt, ↓FW_bk, ↓FW_ct, ↓RW_v, ↓RW_n, ↓RW_o, ↓bh_v, ↓bh_n, ↓bh_o, ↓Gam_glob, ↓D_add, ↓D_sub, ↓D_mul, ↓D_fdiv, ↓D_mod, ↓D_band, ↓D_bor, ↓D_bxor, ↓D_shl, ↓D_shr, ↓D_lt, ↓D_le, ↓D_gt, ↓D_ge, ↓D_eqi, ↓D_nei, ↓D_eqb, ↓D_eqll, ↓D_nell, ↓D_eqnn, ↓D_nenn, ↓D_eqnl, ↓D_nenl, ↓D_eqln, ↓D_neln, ↓D_eqtt, ↓D_nett, ↓D_ill, ↓D_itt, ↓D_neb, ↓D_isN, ↓D_inN, ↓D_isi1, ↓D_ini1, ↓D_ist1, ↓D_int1, ↓D_isl1, ↓D_inl1, ↓D_isn1, ↓D_inn1, ↓D_isb1, ↓D_inb1, ↓D_neg, ↓D_abs, ↓D_int, ↓D_intb, ↓D_lenT, ↓D_lenL, ↓D_lenS, ↓D_lenN, ↓D_lenB, ↓D_lenO, ↓D_max, ↓D_min, ↓D_ixT, ↓D_ixL, ↓D_ixS, ↓D_ixN, ↓D_ixB, ↓D_ixO, ↓D_setB, ↓D_setO, ↓D_appO, ↓D_lof, ↓D_catNN, ↓D_catNL, ↓D_catLN, ↓D_catLL, ↓D_ii, ↓D_ib, ↓D_bi, ↓D_bb, ↓BW_s, ↓OnW_s, ↓OnB_s, ↓VW_rv, ↓VW_rn, ↓VW_nx, ↓RV_rv, ↓at0, ↓at1, ↓at2, ↓at3, ↓Au_add, ↓Au_sub, ↓Au_bor, ↓Au_mul, ↓sT0, ↓sTS, ↓I1W_i, ↓I2W_i, ↓I3W_l, ↓I3W_s, ↓I3W_t, ↓I3W_n, ↓stepQ_nx, ↓stepQ_ct, ↓stepQ_bk, ↓stepQ_rt, ↓sE, ↓eg0, ↓egS, ↓st0, ↓stS, ↓true_and, ↓and_true, ↓eq_self, ↓isF_v, ↓isF_n, ↓decide_true, ↓decide_false, ↓Bool.not_true, ↓Bool.not_false, List.set_cons_zero, List.set_cons_succ]
  refine W_loop_lst (ds := natsD cs) (.val (.lst (natsD cs))) (fun _ => ⟨_, rfl⟩) (fun n st => ∃ s2, st = ⟨[.val (.lst (natsD cs)), .val (.int (maskN (cs.take n))), s2], T, ro⟩) ⟨_, rfl⟩ ?_ ?_
  · rintro n st d hd ⟨s2, rfl⟩
    unfold natsD at hd
    rw [List.getElem?_map] at hd
    cases hn : cs[n]? with
    | none => rw [hn] at hd; cases hd
    | some c =>
    rw [hn] at hd; cases hd
    have hc := h c (List.mem_of_getElem? hn)
    have e : maskN (cs.take (n + 1)) = maskN (cs.take n) ||| 2 ^ c := by
      rw [List.take_add_one, hn]; exact maskN_snoc _ _
    simp -implicitDefEqProofs -dsimp (disch := omega) only [bMaskOfB, List.map, List.length, List.replicate, List.cons_append, List.nil_append, ↓W_dt, ↓W_fld, ↓W_meth, ↓W_make, ↓MkW_n, ↓W_popl, ↓W_setf, ↓W_augx, ↓W_asgM, ↓Gam_ncl, ↓EnW_l, ↓EnW_s, ↓EnW_n, ↓EnW_f, ↓EnW_b, ↓LG_rng, ↓LG_seq, ↓LG_enum, ↓LG_zip, ↓LG_str, ↓LG_seqR, ↓LG_enumR, ↓I3W_f, ↓I3W_b, ↓InW_s, ↓FdW_v, ↓FdW_o, ↓FdW_d, ↓InB_s, ↓D_fld, ↓D_meth, ↓D_setf, ↓SO_v, ↓SO_n, ↓SO_nf, ↓SO_d, ↓sq_f, ↓live_f, ↓live_b, ↓D_lenF, ↓D_ixF, ↓D_appF, ↓D_setF, ↓D_poplF, ↓D_lofF, ↓tp0, ↓tpS, ↓bh_f, ↓CG_rng, ↓CG_seq, ↓CG_enum, ↓CG_zip, ↓CG_str, ↓CG_seqR, ↓CG_enumR, ↓W_var, ↓W_cst, ↓W_glob, ↓W_bin, ↓W_cmp, ↓W_ix, ↓W_un, ↓W_blt, ↓W_blt2, ↓W_isi, ↓W_bits, ↓W_idx, ↓W_find, ↓W_pop, ↓W_dnew, ↓W_dix, ↓W_din, ↓W_sset, ↓D_sset, ↓W_lrg1, ↓W_lrg2, ↓W_dput, ↓StW_s, ↓ViW_i, ↓VaW_v, ↓SlW_d, ↓bh_nd, ↓OdW_s, ↓LnW_o, ↓LnW_d, ↓D_pop, ↓D_dixI, ↓D_dixS, ↓D_dinI, ↓D_dinS, ↓D_dputI, ↓D_dputS, ↓D_find, ↓D_lrg, ↓W_enum, ↓W_zip, ↓W_istr, ↓lstP_l, ↓lstP_s, ↓lstP_n, ↓lstQ_l, ↓W_revl, ↓W_revs, ↓W_sl, ↓W_bind, ↓W_partT, ↓W_partF, ↓PaW_i, ↓D_list, ↓D_tuple, ↓D_sum, ↓D_sorted, ↓D_maxl, ↓D_minl, ↓D_str, ↓D_bits, ↓D_revS, ↓D_revL, ↓D_revN, ↓seq_t, ↓seq_l, ↓seq_s, ↓seq_n, ↓seq_b, ↓seq_o, ↓ints_n, ↓ints_l, ↓inta_n, ↓inta_l, ↓inta_t, ↓W_exi, ↓W_chain, ↓W_not, ↓W_and, ↓W_or, ↓W_ife, ↓W_tup, ↓W_lst, ↓W_call, ↓W_frz, ↓W_mkbox, ↓W_app, ↓W_enil, ↓W_econs, ↓W_rng1, ↓W_rng2, ↓W_seq, ↓W_asg, ↓W_asgO, ↓W_asgT, ↓W_aug, ↓W_setix, ↓W_expr, ↓W_ret, ↓W_retN, ↓W_pass, ↓W_brk, ↓W_cont, ↓W_raise, ↓W_if, ↓W_for, ↓W_nil, ↓W_cons, ↓W_try, ↓W_ok, ↓W_exc, ↓WC_ok, ↓WC_exc, ↓WK_ok, ↓WK_exc, ↓TW_b, ↓DW_v, ↓DW_n, ↓IT_t, ↓IT_f, ↓IT_dt, ↓IT_df, IT_d, ↓IT_e1, ↓IT_e2, ↓IT_e3, ↓IT_e4, ↓IT_n, ↓IT_a, ↓SlW_v, ↓SlW_o, ↓OW_s, ↓FW_nx, ↓FW_rt, ↓FW_bk, ↓FW_ct, ↓RW_v, ↓RW_n, ↓RW_o, ↓bh_v, ↓bh_n, ↓bh_o, ↓Gam_glob, ↓D_add, ↓D_sub, ↓D_mul, ↓D_fdiv, ↓D_mod, ↓D_band, ↓D_bor, ↓D_bxor, ↓D_shl, ↓D_shr, ↓D_lt, ↓D_le, ↓D_gt, ↓D_ge, ↓D_eqi, ↓D_nei, ↓D_eqb, ↓D_eqll, ↓D_nell, ↓D_eqnn, ↓D_nenn, ↓D_eqnl, ↓D_nenl, ↓D_eqln, ↓D_neln, ↓D_eqtt, ↓D_nett, ↓D_ill, ↓D_itt, ↓D_neb, ↓D_isN, ↓D_inN, ↓D_isi1, ↓D_ini1, ↓D_ist1, ↓D_int1, ↓D_isl1, ↓D_inl1, ↓D_isn1, ↓D_inn1, ↓D_isb1, ↓D_inb1, ↓D_neg, ↓D_abs, ↓D_int, ↓D_intb, ↓D_lenT, ↓D_lenL, ↓D_lenS, ↓D_lenN, ↓D_lenB, ↓D_lenO, ↓D_max, ↓D_min, ↓D_ixT, ↓D_ixL, ↓D_ixS, ↓D_ixN, ↓D_ixB, ↓D_ixO, ↓D_setB, ↓D_setO, ↓D_appO, ↓D_lof, ↓D_catNN, ↓D_catNL, ↓D_catLN, ↓D_catLL, ↓D_ii, ↓D_ib, ↓D_bi, ↓D_bb, ↓BW_s, ↓OnW_s, ↓OnB_s, ↓VW_rv, ↓VW_rn, ↓VW_nx, ↓RV_rv, ↓at0, ↓at1, ↓at2, ↓at3, ↓Au_add, ↓Au_sub, ↓Au_bor, ↓Au_mul, ↓sT0, ↓sTS, ↓I1W_i, ↓I2W_i, ↓I3W_l, ↓I3W_s, ↓I3W_t, ↓I3W_n, ↓stepQ_nx, ↓stepQ_ct, ↓stepQ_bk, ↓stepQ_rt, ↓sE, ↓eg0, ↓egS, ↓st0, ↓stS, ↓true_and, ↓and_true, ↓eq_self, ↓isF_v, ↓isF_n, ↓decide_true, ↓decide_false, ↓Bool.not_true, ↓Bool.not_false, List.set_cons_zero, List.set_cons_succ, Int.toNat_natCast, shl_nat, bor_nat]
    exact ⟨⟨by omega, by omega, by decide⟩, _, by rw [e]⟩
  · rintro st ⟨s2, rfl⟩
    have : (natsD cs).length = cs.length := by unfold natsD; rw [List.length_map]
    rw [this, List.take_length]
    simp -implicitDefEqProofs -dsimp (disch := omega) only [bMaskOfT, List.map, List.length, List.replicate, List.cons_append, List.nil_append, ↓W_dt, ↓W_fld, ↓W_meth, ↓W_make, ↓MkW_n, ↓W_popl, ↓W_setf, ↓W_augx, ↓W_asgM, ↓Gam_ncl, ↓EnW_l, ↓EnW_s, ↓EnW_n, ↓EnW_f, ↓EnW_b, ↓LG_rng, ↓LG_seq, ↓LG_enum, ↓LG_zip, ↓LG_str, ↓LG_seqR, ↓LG_enumR, ↓I3W_f, ↓I3W_b, ↓InW_s, ↓FdW_v, ↓FdW_o, ↓FdW_d, ↓InB_s, ↓D_fld, ↓D_meth, ↓D_setf, ↓SO_v, ↓SO_n, ↓SO_nf, ↓SO_d, ↓sq_f, ↓live_f, ↓live_b, ↓D_lenF, ↓D_ixF, ↓D_appF, ↓D_setF, ↓D_poplF, ↓D_lofF, ↓tp0, ↓tpS, ↓bh_f, ↓CG_rng, ↓CG_seq, ↓CG_enum, ↓CG_zip, ↓CG_str, ↓CG_seqR, ↓CG_enumR, ↓W_var, ↓W_cst, ↓W_glob, ↓W_bin, ↓W_cmp, ↓W_ix, ↓W_un, ↓W_blt, ↓W_blt2, ↓W_isi, ↓W_bits, ↓W_idx, ↓W_find, ↓W_pop, ↓W_dnew, ↓W_dix, ↓W_din, ↓W_sset, ↓D_sset, ↓W_lrg1, ↓W_lrg2, ↓W_dput, ↓StW_s, ↓ViW_i, ↓VaW_v, ↓SlW_d, ↓bh_nd, ↓OdW_s, ↓LnW_o, ↓LnW_d, ↓D_pop, ↓D_dixI, ↓D_dixS, ↓D_dinI, ↓D_dinS, ↓D_dputI, ↓D_dputS, ↓D_find, ↓D_lrg, ↓W_enum, ↓W_zip, ↓W_istr, ↓lstP_l, ↓lstP_s, ↓lstP_n, ↓lstQ_l, ↓W_revl, ↓W_revs, ↓W_sl, ↓W_bind, ↓W_partT, ↓W_partF, ↓PaW_i, ↓D_list, ↓D_tuple, ↓D_sum, ↓D_sorted, ↓D_maxl, ↓D_minl, ↓D_str, ↓D_bits, ↓D_revS, ↓D_revL, ↓D_revN, ↓seq_t, ↓seq_l, ↓seq_s, ↓seq_n, ↓seq_b, ↓seq_o, ↓ints_n, ↓ints_l, ↓inta_n, ↓inta_l, ↓inta_t, ↓W_exi, ↓W_chain, ↓W_not, ↓W_and, ↓W_or, ↓W_ife, ↓W_tup, ↓W_lst, ↓W_call, ↓W_frz, ↓W_mkbox, ↓W_app, ↓W_enil, ↓W_econs, ↓W_rng1, ↓W_rng2, ↓W_seq, ↓W_asg, ↓W_asgO, ↓W_asgT, ↓W_aug, ↓W_setix, ↓W_expr, ↓W_ret, ↓W_retN, ↓W_pass, ↓W_brk, ↓W_cont, ↓W_raise, ↓W_if, ↓W_for, ↓W_nil, ↓W_cons, ↓W_try, ↓W_ok, ↓W_exc, ↓WC_ok, ↓WC_exc, ↓WK_ok, ↓WK_exc, ↓TW_b, ↓DW_v, ↓DW_n, ↓IT_t, ↓IT_f, ↓IT_dt, ↓IT_df, IT_d, ↓IT_e1, ↓IT_e2, ↓IT_e3, ↓IT_e4, ↓IT_n, ↓IT_a, ↓SlW_v, ↓SlW_o, ↓OW_s, ↓FW_nx, ↓FW_rt, ↓FW_bk, ↓FW_ct, ↓RW_v, ↓RW_n, ↓RW_o, ↓bh_v, ↓bh_n, ↓bh_o, ↓Gam_glob, ↓D_add, ↓D_sub, ↓D_mul, ↓D_fdiv, ↓D_mod, ↓D_band, ↓D_bor, ↓D_bxor, ↓D_shl, ↓D_shr, ↓D_lt, ↓D_le, ↓D_gt, ↓D_ge, ↓D_eqi, ↓D_nei, ↓D_eqb, ↓D_eqll, ↓D_nell, ↓D_eqnn, ↓D_nenn, ↓D_eqnl, ↓D_nenl, ↓D_eqln, ↓D_neln, ↓D_eqtt, ↓D_nett, ↓D_ill, ↓D_itt, ↓D_neb, ↓D_isN, ↓D_inN, ↓D_isi1, ↓D_ini1, ↓D_ist1, ↓D_int1, ↓D_isl1, ↓D_inl1, ↓D_isn1, ↓D_inn1, ↓D_isb1, ↓D_inb1, ↓D_neg, ↓D_abs, ↓D_int, ↓D_intb, ↓D_lenT, ↓D_lenL, ↓D_lenS, ↓D_lenN, ↓D_lenB, ↓D_lenO, ↓D_max, ↓D_min, ↓D_ixT, ↓D_ixL, ↓D_ixS, ↓D_ixN, ↓D_ixB, ↓D_ixO, ↓D_setB, ↓D_setO, ↓D_appO, ↓D_lof, ↓D_catNN, ↓D_catNL, ↓D_catLN, ↓D_catLL, ↓D_ii, ↓D_ib, ↓D_bi, ↓D_bb, ↓BW_s, ↓OnW_s, ↓OnB_s, ↓VW_rv, ↓VW_rn, ↓VW_nx, ↓RV_rv, ↓at0, ↓at1, ↓at2, ↓at3, ↓Au_add, ↓Au_sub, ↓Au_bor, ↓Au_mul, ↓sT0, ↓sTS, ↓I1W_i, ↓I2W_i, ↓I3W_l, ↓I3W_s, ↓I3W_t, ↓I3W_n, ↓stepQ_nx, ↓stepQ_ct, ↓stepQ_bk, ↓stepQ_rt, ↓sE, ↓eg0, ↓egS, ↓st0, ↓stS, ↓true_and, ↓and_true, ↓eq_self, ↓isF_v, ↓isF_n, ↓decide_true, ↓decide_false, ↓Bool.not_true, ↓Bool.not_false, List.set_cons_zero, List.set_cons_succ]
def bCount (f : Nat) : Ss := (.cons (.ret (.blt .len (.call f (.cons (.var 0) .nil)))) .nil)
theorem natsD_len (cs : List Nat) : (natsD cs).length = cs.length := by unfold natsD; rw [List.length_map]
theorem count_run {p : Prg} {f g : Nat} (hf : p.fn f = ⟨1, bCount g⟩) (ha : p.ar f = 1) (hg : p.fn g = ⟨2, bCards⟩) (hga : p.ar g = 1) {k : Nat} (hk : 1 < k) (m n : Nat) (h : m < 2 ^ n) (hn : n ≤ 100000) (ro : Bool) (T : List Ob) :
    run p k f ro [.int m] T = .ok (.val (.int (cardsN m n).length)) T := by
  refine WC_eq (WC_run (by rw [ha]; rfl) hf (by omega) ?_)
  have e := cards_run hg hga (k := k - 1) (by omega) m n h hn ro T
  simp -implicitDefEqProofs -dsimp (disch := omega) only [bCount, List.map, List.length, List.replicate, List.cons_append, List.nil_append, ↓W_dt, ↓W_fld, ↓W_meth, ↓W_make, ↓MkW_n, ↓W_popl, ↓W_setf, ↓W_augx, ↓W_asgM, ↓Gam_ncl, ↓EnW_l, ↓EnW_s, ↓EnW_n, ↓EnW_f, ↓EnW_b, ↓LG_rng, ↓LG_seq, ↓LG_enum, ↓LG_zip, ↓LG_str, ↓LG_seqR, ↓LG_enumR, ↓I3W_f, ↓I3W_b, ↓InW_s, ↓FdW_v, ↓FdW_o, ↓FdW_d, ↓InB_s, ↓D_fld, ↓D_meth, ↓D_setf, ↓SO_v, ↓SO_n, ↓SO_nf, ↓SO_d, ↓sq_f, ↓live_f, ↓live_b, ↓D_lenF, ↓D_ixF, ↓D_appF, ↓D_setF, ↓D_poplF, ↓D_lofF, ↓tp0, ↓tpS, ↓bh_f, ↓CG_rng, ↓CG_seq, ↓CG_enum, ↓CG_zip, ↓CG_str, ↓CG_seqR, ↓CG_enumR, ↓W_var, ↓W_cst, ↓W_glob, ↓W_bin, ↓W_cmp, ↓W_ix, ↓W_un, ↓W_blt, ↓W_blt2, ↓W_isi, ↓W_bits, ↓W_idx, ↓W_find, ↓W_pop, ↓W_dnew, ↓W_dix, ↓W_din, ↓W_sset, ↓D_sset, ↓W_lrg1, ↓W_lrg2, ↓W_dput, ↓StW_s, ↓ViW_i, ↓VaW_v, ↓SlW_d, ↓bh_nd, ↓OdW_s, ↓LnW_o, ↓LnW_d, ↓D_pop, ↓D_dixI, ↓D_dixS, ↓D_dinI, ↓D_dinS, ↓D_dputI, ↓D_dputS, ↓D_find, ↓D_lrg, ↓W_enum, ↓W_zip, ↓W_istr, ↓lstP_l, ↓lstP_s, ↓lstP_n, ↓lstQ_l, ↓W_revl, ↓W_revs, ↓W_sl, ↓W_bind, ↓W_partT, ↓W_partF, ↓PaW_i, ↓D_list, ↓D_tuple, ↓D_sum, ↓D_sorted, ↓D_maxl, ↓D_minl, ↓D_str, ↓D_bits, ↓D_revS, ↓D_revL, ↓D_revN, ↓seq_t, ↓seq_l, ↓seq_s, ↓seq_n, ↓seq_b, ↓seq_o, ↓ints_n, ↓ints_l, ↓inta_n, ↓inta_l, ↓inta_t, ↓W_exi, ↓W_chain, ↓W_not, ↓W_and, ↓W_or, ↓W_ife, ↓W_tup, ↓W_lst, ↓W_call, ↓W_frz, ↓W_mkbox, ↓W_app, ↓W_enil, ↓W_econs, ↓W_rng1, ↓W_rng2, ↓W_seq, ↓W_asg, ↓W_asgO, ↓W_asgT, ↓W_aug, ↓W_setix, ↓W_expr, ↓W_ret, ↓W_retN, ↓W_pass, ↓W_brk, ↓W_cont, ↓W_raise, ↓W_if, ↓W_for, ↓W_nil, ↓W_cons, ↓W_try, ↓W_ok, ↓W_exc, ↓WC_ok, ↓WC_exc, ↓WK_ok, ↓WK_exc, ↓TW_b, ↓DW_v, ↓DW_n, ↓IT_t, ↓IT_f, ↓IT_dt, ↓IT_df, IT_d, ↓IT_e1, ↓IT_e2, ↓IT_e3, ↓IT_e4, ↓IT_n, ↓IT_a, ↓SlW_v, ↓SlW_o, ↓OW_s, ↓FW_nx, ↓FW_rt, ↓FW_bk, ↓FW_ct, ↓RW_v, ↓RW_n, ↓RW_o, ↓bh_v, ↓bh_n, ↓bh_o, ↓Gam_glob, ↓D_add, ↓D_sub, ↓D_mul, ↓D_fdiv, ↓D_mod, ↓D_band, ↓D_bor, ↓D_bxor, ↓D_shl, ↓D_shr, ↓D_lt, ↓D_le, ↓D_gt, ↓D_ge, ↓D_eqi, ↓D_nei, ↓D_eqb, ↓D_eqll, ↓D_nell, ↓D_eqnn, ↓D_nenn, ↓D_eqnl, ↓D_nenl, ↓D_eqln, ↓D_neln, ↓D_eqtt, ↓D_nett, ↓D_ill, ↓D_itt, ↓D_neb, ↓D_isN, ↓D_inN, ↓D_isi1, ↓D_ini1, ↓D_ist1, ↓D_int1, ↓D_isl1, ↓D_inl1, ↓D_isn1, ↓D_inn1, ↓D_isb1, ↓D_inb1, ↓D_neg, ↓D_abs, ↓D_int, ↓D_intb, ↓D_lenT, ↓D_lenL, ↓D_lenS, ↓D_lenN, ↓D_lenB, ↓D_lenO, ↓D_max, ↓D_min, ↓D_ixT, ↓D_ixL, ↓D_ixS, ↓D_ixN, ↓D_ixB, ↓D_ixO, ↓D_setB, ↓D_setO, ↓D_appO, ↓D_lof, ↓D_catNN, ↓D_catNL, ↓D_catLN, ↓D_catLL, ↓D_ii, ↓D_ib, ↓D_bi, ↓D_bb, ↓BW_s, ↓OnW_s, ↓OnB_s, ↓VW_rv, ↓VW_rn, ↓VW_nx, ↓RV_rv, ↓at0, ↓at1, ↓at2, ↓at3, ↓Au_add, ↓Au_sub, ↓Au_bor, ↓Au_mul, ↓sT0, ↓sTS, ↓I1W_i, ↓I2W_i, ↓I3W_l, ↓I3W_s, ↓I3W_t, ↓I3W_n, ↓stepQ_nx, ↓stepQ_ct, ↓stepQ_bk, ↓stepQ_rt, ↓sE, ↓eg0, ↓egS, ↓st0, ↓stS, ↓true_and, ↓and_true, ↓eq_self, ↓isF_v, ↓isF_n, ↓decide_true, ↓decide_false, ↓Bool.not_true, ↓Bool.not_false, List.set_cons_zero, List.set_cons_succ, e, natsD_len]
def bOfSuit : Ss := (.cons (.ret (.bin .band (.var 1) (.bin .shl (.bin .sub (.bin .shl (.cst (.int 1)) (.ix (.var 0) (.cst (.int 1)))) (.cst (.int 1))) (.bin .mul (.var 2) (.ix (.var 0) (.cst (.int 1)))))))
  .nil)
def suitN (m r s : Nat) : Nat := m &&& ((2 ^ r - 1) <<< (s * r))
theorem suitN_bit (m r s i : Nat) : (suitN m r s).testBit i = (m.testBit i && (decide (s * r ≤ i) && decide (i < s * r + r))) := by
  unfold suitN
  rw [Nat.testBit_and, Nat.testBit_shiftLeft, Nat.testBit_two_pow_sub_one]
  congr 1
  by_cases h : s * r ≤ i
  · simp only [h, ge_iff_le, decide_true, Bool.true_and]
    exact decide_eq_decide.2 (by omega)
  · simp [h]
theorem ofsuit_run {p : Prg} {f : Nat} (hf : p.fn f = ⟨3, bOfSuit⟩) (ha : p.ar f = 3) {k : Nat} (hk : 0 < k) (q : Int) (m r s : Nat) (hr : r ≤ 13) (hs : s ≤ 1000) (ro : Bool) (T : List Ob) :
    run p k f ro [.tup [.int q, .int r], .int m, .int s] T = .ok (.val (.int (suitN m r s))) T := by
  refine WC_eq (WC_run (by rw [ha]; rfl) hf hk ?_)
  have h1 : 1 ≤ 2 ^ r := Nat.one_le_two_pow
  have h2 : 2 ^ r ≤ 2 ^ 13 := Nat.pow_le_pow_right (by omega) hr
  have h3 : (((2 ^ r : Nat) : Int) - 1) = ((2 ^ r - 1 : Nat) : Int) := by omega
  have h4 : (s : Int) * (r : Int) = ((s * r : Nat) : Int) := by push_cast; rfl
  have h5 : ∀ a b : Nat, (a : Int) * 2 ^ b = ((a <<< b : Nat) : Int) := fun a b => by rw [Nat.shiftLeft_eq]; push_cast; rfl
  have h6 : s * r ≤ 1000 * 13 := Nat.mul_le_mul hs hr
  simp -implicitDefEqProofs -dsimp (disch := omega) only [bOfSuit, List.map, List.length, List.replicate, List.cons_append, List.nil_append, ↓W_dt, ↓W_fld, ↓W_meth, ↓W_make, ↓MkW_n, ↓W_popl, ↓W_setf, ↓W_augx, ↓W_asgM, ↓Gam_ncl, ↓EnW_l, ↓EnW_s, ↓EnW_n, ↓EnW_f, ↓EnW_b, ↓LG_rng, ↓LG_seq, ↓LG_enum, ↓LG_zip, ↓LG_str, ↓LG_seqR, ↓LG_enumR, ↓I3W_f, ↓I3W_b, ↓InW_s, ↓FdW_v, ↓FdW_o, ↓FdW_d, ↓InB_s, ↓D_fld, ↓D_meth, ↓D_setf, ↓SO_v, ↓SO_n, ↓SO_nf, ↓SO_d, ↓sq_f, ↓live_f, ↓live_b, ↓D_lenF, ↓D_ixF, ↓D_appF, ↓D_setF, ↓D_poplF, ↓D_lofF, ↓tp0, ↓tpS, ↓bh_f, ↓CG_rng, ↓CG_seq, ↓CG_enum, ↓CG_zip, ↓CG_str, ↓CG_seqR, ↓CG_enumR, ↓W_var, ↓W_cst, ↓W_glob, ↓W_bin, ↓W_cmp, ↓W_ix, ↓W_un, ↓W_blt, ↓W_blt2, ↓W_isi, ↓W_bits, ↓W_idx, ↓W_find, ↓W_pop, ↓W_dnew, ↓W_dix, ↓W_din, ↓W_sset, ↓D_sset, ↓W_lrg1, ↓W_lrg2, ↓W_dput, ↓StW_s, ↓ViW_i, ↓VaW_v, ↓SlW_d, ↓bh_nd, ↓OdW_s, ↓LnW_o, ↓LnW_d, ↓D_pop, ↓D_dixI, ↓D_dixS, ↓D_dinI, ↓D_dinS, ↓D_dputI, ↓D_dputS, ↓D_find, ↓D_lrg, ↓W_enum, ↓W_zip, ↓W_istr, ↓lstP_l, ↓lstP_s, ↓lstP_n, ↓lstQ_l, ↓W_revl, ↓W_revs, ↓W_sl, ↓W_bind, ↓W_partT, ↓W_partF, ↓PaW_i, ↓D_list, ↓D_tuple, ↓D_sum, ↓D_sorted, ↓D_maxl, ↓D_minl, ↓D_str, ↓D_bits, ↓D_revS, ↓D_revL, ↓D_revN, ↓seq_t, ↓seq_l, ↓seq_s, ↓seq_n, ↓seq_b, ↓seq_o, ↓ints_n, ↓ints_l, ↓inta_n, ↓inta_l, ↓inta_t, ↓W_exi, ↓W_chain, ↓W_not, ↓W_and, ↓W_or, ↓W_ife, ↓W_tup, ↓W_lst, ↓W_call, ↓W_frz, ↓W_mkbox, ↓W_app, ↓W_enil, ↓W_econs, ↓W_rng1, ↓W_rng2, ↓W_seq, ↓W_asg, ↓W_asgO, ↓W_asgT, ↓W_aug, ↓W_setix, ↓W_expr, ↓W_ret, ↓W_retN, ↓W_pass, ↓W_brk, ↓W_cont, ↓W_raise, ↓W_if, ↓W_for, ↓W_nil, ↓W_cons, ↓W_try, ↓W_ok, ↓W_exc, ↓WC_ok, ↓WC_exc, ↓WK_ok, ↓WK_exc, ↓TW_b, ↓DW_v, ↓DW_n, ↓IT_t, ↓IT_f, ↓IT_dt, ↓IT_df, IT_d, ↓IT_e1, ↓IT_e2, ↓IT_e3, ↓IT_e4, ↓IT_n, ↓IT_a, ↓SlW_v, ↓SlW_o, ↓OW_s, ↓FW_nx, ↓FW_rt, ↓FW_bk, ↓FW_ct, ↓RW_v, ↓RW_n, ↓RW_o, ↓bh_v, ↓bh_n, ↓bh_o, ↓Gam_glob, ↓D_add, ↓D_sub, ↓D_mul, ↓D_fdiv, ↓D_mod, ↓D_band, ↓D_bor, ↓D_bxor, ↓D_shl, ↓D_shr, ↓D_lt, ↓D_le, ↓D_gt, ↓D_ge, ↓D_eqi, ↓D_nei, ↓D_eqb, ↓D_eqll, ↓D_nell, ↓D_eqnn, ↓D_nenn, ↓D_eqnl, ↓D_nenl, ↓D_eqln, ↓D_neln, ↓D_eqtt, ↓D_nett, ↓D_ill, ↓D_itt, ↓D_neb, ↓D_isN, ↓D_inN, ↓D_isi1, ↓D_ini1, ↓D_ist1, ↓D_int1, ↓D_isl1, ↓D_inl1, ↓D_isn1, ↓D_inn1, ↓D_isb1, ↓D_inb1, ↓D_neg, ↓D_abs, ↓D_int, ↓D_intb, ↓D_lenT, ↓D_lenL, ↓D_lenS, ↓D_lenN, ↓D_lenB, ↓D_lenO, ↓D_max, ↓D_min, ↓D_ixT, ↓D_ixL, ↓D_ixS, ↓D_ixN, ↓D_ixB, ↓D_ixO, ↓D_setB, ↓D_setO, ↓D_appO, ↓D_lof, ↓D_catNN, ↓D_catNL, ↓D_catLN, ↓D_catLL, ↓D_ii, ↓D_ib, ↓D_bi, ↓D_bb, ↓BW_s, ↓OnW_s, ↓OnB_s, ↓VW_rv, ↓VW_rn, ↓VW_nx, ↓RV_rv, ↓at0, ↓at1, ↓at2, ↓at3, ↓Au_add, ↓Au_sub, ↓Au_bor, ↓Au_mul, ↓sT0, ↓sTS, ↓I1W_i, ↓I2W_i, ↓I3W_l, ↓I3W_s, ↓I3W_t, ↓I3W_n, ↓stepQ_nx, ↓stepQ_ct, ↓stepQ_bk, ↓stepQ_rt, ↓sE, ↓eg0, ↓egS, ↓st0, ↓stS, ↓true_and, ↓and_true, ↓eq_self, ↓isF_v, ↓isF_n, ↓decide_true, ↓decide_false, ↓Bool.not_true, ↓Bool.not_false, List.set_cons_zero, List.set_cons_succ, Int.toNat_natCast, shl_nat, h3, h4, h5, band_nat, mulOk_r]
  exact ⟨⟨by omega, by omega, by decide⟩, ⟨by omega, by omega, by rw [Int.natAbs_natCast]; omega⟩, rfl⟩
/-! drawn decks and masks -/
def bAny (f : Nat) : Ss := (.cons (.ret (.tup (.cons (.bin .add (.cst (.int 1)) (.call f (.cons (.var 0) (.cons (.cst (.int 4)) .nil)))) (.cons (.bin .add (.cst (.int 1)) (.call f (.cons (.var 0) (.cons (.cst (.int 13)) .nil)))) .nil))))
  .nil)
theorem any_run {p : Prg} {f g : Nat} (hf : p.fn f = ⟨1, bAny g⟩) (ha : p.ar f = 1) (hg : p.fn g = ⟨4, bPick⟩) (hga : p.ar g = 2) {k : Nat} (hk : 1 < k) {ns : List Int} (gp : GP ns) (a : Int) (h0 : 0 ≤ a) (h1 : a < 100000) (T : List Ob) :
    ∃ s r : Nat, 1 ≤ s ∧ s ≤ 4 ∧ 1 ≤ r ∧ r ≤ 13 ∧ run p k f false [.box 0] (pl ns a :: T) = .ok (.val (.tup [.int s, .int r])) (pl ns (a + 1 + 1) :: T) := by
  have zl : sizeLine = 16777216 := rfl
  have p1 := pv_nn ns a 4 (by omega)
  have p2 := pv_lt ns a 4 (by omega)
  have p3 := pv_nn ns (a + 1) 13 (by omega)
  have p4 := pv_lt ns (a + 1) 13 (by omega)
  refine ⟨(1 + pv ns a 4).toNat, (1 + pv ns (a + 1) 13).toNat, by omega, by omega, by omega, by omega, ?_⟩
  refine WC_eq (WC_run (by rw [ha]; rfl) hf (by omega) ?_)
  have pk := fun a m T h0 h1 hm => pick_run hg hga (k := k - 1) (by omega) gp (a := a) (m := m) h0 h1 hm T
  have e1 : ((1 + pv ns a 4).toNat : Int) = 1 + pv ns a 4 := by omega
  have e2 : ((1 + pv ns (a + 1) 13).toNat : Int) = 1 + pv ns (a + 1) 13 := by omega
  simp -implicitDefEqProofs -dsimp (disch := omega) only [bAny, List.map, List.length, List.replicate, List.cons_append, List.nil_append, ↓W_dt, ↓W_fld, ↓W_meth, ↓W_make, ↓MkW_n, ↓W_popl, ↓W_setf, ↓W_augx, ↓W_asgM, ↓Gam_ncl, ↓EnW_l, ↓EnW_s, ↓EnW_n, ↓EnW_f, ↓EnW_b, ↓LG_rng, ↓LG_seq, ↓LG_enum, ↓LG_zip, ↓LG_str, ↓LG_seqR, ↓LG_enumR, ↓I3W_f, ↓I3W_b, ↓InW_s, ↓FdW_v, ↓FdW_o, ↓FdW_d, ↓InB_s, ↓D_fld, ↓D_meth, ↓D_setf, ↓SO_v, ↓SO_n, ↓SO_nf, ↓SO_d, ↓sq_f, ↓live_f, ↓live_b, ↓D_lenF, ↓D_ixF, ↓D_appF, ↓D_setF, ↓D_poplF, ↓D_lofF, ↓tp0, ↓tpS, ↓bh_f, ↓CG_rng, ↓CG_seq, ↓CG_enum, ↓CG_zip, ↓CG_str, ↓CG_seqR, ↓CG_enumR, ↓W_var, ↓W_cst, ↓W_glob, ↓W_bin, ↓W_cmp, ↓W_ix, ↓W_un, ↓W_blt, ↓W_blt2, ↓W_isi, ↓W_bits, ↓W_idx, ↓W_find, ↓W_pop, ↓W_dnew, ↓W_dix, ↓W_din, ↓W_sset, ↓D_sset, ↓W_lrg1, ↓W_lrg2, ↓W_dput, ↓StW_s, ↓ViW_i, ↓VaW_v, ↓SlW_d, ↓bh_nd, ↓OdW_s, ↓LnW_o, ↓LnW_d, ↓D_pop, ↓D_dixI, ↓D_dixS, ↓D_dinI, ↓D_dinS, ↓D_dputI, ↓D_dputS, ↓D_find, ↓D_lrg, ↓W_enum, ↓W_zip, ↓W_istr, ↓lstP_l, ↓lstP_s, ↓lstP_n, ↓lstQ_l, ↓W_revl, ↓W_revs, ↓W_sl, ↓W_bind, ↓W_partT, ↓W_partF, ↓PaW_i, ↓D_list, ↓D_tuple, ↓D_sum, ↓D_sorted, ↓D_maxl, ↓D_minl, ↓D_str, ↓D_bits, ↓D_revS, ↓D_revL, ↓D_revN, ↓seq_t, ↓seq_l, ↓seq_s, ↓seq_n, ↓seq_b, ↓seq_o, ↓ints_n, ↓ints_l, ↓inta_n, ↓inta_l, ↓inta_t, ↓W_exi, ↓W_chain, ↓W_not, ↓W_and, ↓W_or, ↓W_ife, ↓W_tup, ↓W_lst, ↓W_call, ↓W_frz, ↓W_mkbox, ↓W_app, ↓W_enil, ↓W_econs, ↓W_rng1, ↓W_rng2, ↓W_seq, ↓W_asg, ↓W_asgO, ↓W_asgT, ↓W_aug, ↓W_setix, ↓W_expr, ↓W_ret, ↓W_retN, ↓W_pass, ↓W_brk, ↓W_cont, ↓W_raise, ↓W_if, ↓W_for, ↓W_nil, ↓W_cons, ↓W_try, ↓W_ok, ↓W_exc, ↓WC_ok, ↓WC_exc, ↓WK_ok, ↓WK_exc, ↓TW_b, ↓DW_v, ↓DW_n, ↓IT_t, ↓IT_f, ↓IT_dt, ↓IT_df, IT_d, ↓IT_e1, ↓IT_e2, ↓IT_e3, ↓IT_e4, ↓IT_n, ↓IT_a, ↓SlW_v, ↓SlW_o, ↓OW_s, ↓FW_nx, ↓FW_rt, ↓FW_bk, ↓FW_ct, ↓RW_v, ↓RW_n, ↓RW_o, ↓bh_v, ↓bh_n, ↓bh_o, ↓Gam_glob, ↓D_add, ↓D_sub, ↓D_mul, ↓D_fdiv, ↓D_mod, ↓D_band, ↓D_bor, ↓D_bxor, ↓D_shl, ↓D_shr, ↓D_lt, ↓D_le, ↓D_gt, ↓D_ge, ↓D_eqi, ↓D_nei, ↓D_eqb, ↓D_eqll, ↓D_nell, ↓D_eqnn, ↓D_nenn, ↓D_eqnl, ↓D_nenl, ↓D_eqln, ↓D_neln, ↓D_eqtt, ↓D_nett, ↓D_ill, ↓D_itt, ↓D_neb, ↓D_isN, ↓D_inN, ↓D_isi1, ↓D_ini1, ↓D_ist1, ↓D_int1, ↓D_isl1, ↓D_inl1, ↓D_isn1, ↓D_inn1, ↓D_isb1, ↓D_inb1, ↓D_neg, ↓D_abs, ↓D_int, ↓D_intb, ↓D_lenT, ↓D_lenL, ↓D_lenS, ↓D_lenN, ↓D_lenB, ↓D_lenO, ↓D_max, ↓D_min, ↓D_ixT, ↓D_ixL, ↓D_ixS, ↓D_ixN, ↓D_ixB, ↓D_ixO, ↓D_setB, ↓D_setO, ↓D_appO, ↓D_lof, ↓D_catNN, ↓D_catNL, ↓D_catLN, ↓D_catLL, ↓D_ii, ↓D_ib, ↓D_bi, ↓D_bb, ↓BW_s, ↓OnW_s, ↓OnB_s, ↓VW_rv, ↓VW_rn, ↓VW_nx, ↓RV_rv, ↓at0, ↓at1, ↓at2, ↓at3, ↓Au_add, ↓Au_sub, ↓Au_bor, ↓Au_mul, ↓sT0, ↓sTS, ↓I1W_i, ↓I2W_i, ↓I3W_l, ↓I3W_s, ↓I3W_t, ↓I3W_n, ↓stepQ_nx, ↓stepQ_ct, ↓stepQ_bk, ↓stepQ_rt, ↓sE, ↓eg0, ↓egS, ↓st0, ↓stS, ↓true_and, ↓and_true, ↓eq_self, ↓isF_v, ↓isF_n, ↓decide_true, ↓decide_false, ↓Bool.not_true, ↓Bool.not_false, List.set_cons_zero, List.set_cons_succ, pk, e1, e2]
  omega
def bMaskT : Ss := (.cons (.ret (.var 3)) .nil)
def bMaskA : Ss := (.cons (.asg (.name 3) false (.bin .bor (.var 3) (.bin .shl (.cst (.int 1)) (.var 4)))) .nil)
def bMaskB (f : Nat) : Ss := (.cons (.iff (.cmp .eq (.call f (.cons (.var 0) (.cons (.var 2) .nil))) (.cst (.int 0))) bMaskA .nil) .nil)
def bMask (f : Nat) : Ss :=
  (.cons (.asg (.name 3) false (.cst (.int 0)))
  (.cons (.for_ (.name 4) (.rng1 (.bin .mul (.ix (.var 1) (.cst (.int 0))) (.ix (.var 1) (.cst (.int 1))))) (bMaskB f))
  bMaskT))
theorem mask_run {p : Prg} {f g : Nat} (hf : p.fn f = ⟨5, bMask g⟩) (ha : p.ar f = 3) (hg : p.fn g = ⟨4, bPick⟩) (hga : p.ar g = 2) {k : Nat} (hk : 1 < k) {ns : List Int} (gp : GP ns) (a : Int) (h0 : 0 ≤ a) (h1 : a < 100000) (s r : Nat) (hs : s ≤ 4) (hr : r ≤ 13) (share : Int) (hh : 0 < share) (T : List Ob) :
    ∃ m : Nat, m < 2 ^ (s * r) ∧ run p k f false [.box 0, .tup [.int s, .int r], .int share] (pl ns a :: T) = .ok (.val (.int m)) (pl ns (a + (s * r : Nat)) :: T) := by
  have h6 : s * r ≤ 4 * 13 := Nat.mul_le_mul hs hr
  have h4 : (s : Int) * (r : Int) = ((s * r : Nat) : Int) := by push_cast; rfl
  have key : WC (run p k f false [.box 0, .tup [.int s, .int r], .int share] (pl ns a :: T)) (fun h S => ∃ m : Nat, m < 2 ^ (s * r) ∧ h = .val (.int m) ∧ S = pl ns (a + (s * r : Nat)) :: T) (fun _ _ => False) := by
    refine WC_run (by rw [ha]; rfl) hf (by omega) ?_
    have pk := fun a m T h0 h1 hm => pick_run hg hga (k := k - 1) (by omega) gp (a := a) (m := m) h0 h1 hm T
    simp -implicitDefEqProofs -dsimp (disch := omega) only [bMask, List.map, List.length, List.replicate, List.cons_append, List.nil_append, ↓W_dt, ↓W_fld, ↓W_meth, ↓W_make, ↓MkW_n, ↓W_popl, ↓W_setf, ↓W_augx, ↓W_asgM, ↓Gam_ncl, ↓EnW_l, ↓EnW_s, ↓EnW_n, ↓EnW_f, ↓EnW_b, ↓LG_rng, ↓LG_seq, ↓LG_enum, ↓LG_zip, ↓LG_str, ↓LG_seqR, ↓LG_enumR, ↓I3W_f, ↓I3W_b, ↓InW_s, ↓FdW_v, ↓FdW_o, ↓FdW_d, ↓InB_s, ↓D_fld, ↓D_meth, ↓D_setf, ↓SO_v, ↓SO_n, ↓SO_nf, ↓SO_d, ↓sq_f, ↓live_f, ↓live_b, ↓D_lenF, ↓D_ixF, ↓D_appF, ↓D_setF, ↓D_poplF, ↓D_lofF, ↓tp0, ↓tpS, ↓bh_f, ↓CG_rng, ↓CG_seq, ↓CG_enum, ↓CG_zip, ↓CG_str, ↓CG_seqR, ↓CG_enumR, ↓W_var, ↓W_cst, ↓W_glob, ↓W_bin, ↓W_cmp, ↓W_ix, ↓W_un, ↓W_blt, ↓W_blt2, ↓W_isi, ↓W_bits, ↓W_idx, ↓W_find, ↓W_pop, ↓W_dnew, ↓W_dix, ↓W_din, ↓W_sset, ↓D_sset, ↓W_lrg1, ↓W_lrg2, ↓W_dput, ↓StW_s, ↓ViW_i, ↓VaW_v, ↓SlW_d, ↓bh_nd, ↓OdW_s, ↓LnW_o, ↓LnW_d, ↓D_pop, ↓D_dixI, ↓D_dixS, ↓D_dinI, ↓D_dinS, ↓D_dputI, ↓D_dputS, ↓D_find, ↓D_lrg, ↓W_enum, ↓W_zip, ↓W_istr, ↓lstP_l, ↓lstP_s, ↓lstP_n, ↓lstQ_l, ↓W_revl, ↓W_revs, ↓W_sl, ↓W_bind, ↓W_partT, ↓W_partF, ↓PaW_i, ↓D_list, ↓D_tuple, ↓D_sum, ↓D_sorted, ↓D_maxl, ↓D_minl, ↓D_str, ↓D_bits, ↓D_revS, ↓D_revL, ↓D_revN, ↓seq_t, ↓seq_l, ↓seq_s, ↓seq_n, ↓seq_b, ↓seq_o, ↓ints_n, ↓ints_l, ↓inta_n, ↓inta_l, ↓inta_t, ↓W_exi, ↓W_chain, ↓W_not, ↓W_and, ↓W_or, ↓W_ife, ↓W_tup, ↓W_lst, ↓W_call, ↓W_frz, ↓W_mkbox, ↓W_app, ↓W_enil, ↓W_econs, ↓W_rng1, ↓W_rng2, ↓W_seq, ↓W_asg, ↓W_asgO, ↓W_asgT, ↓W_aug, ↓W_setix, ↓W_expr, ↓W_ret, ↓W_retN, ↓W_pass, ↓W_brk, ↓W_cont, ↓W_raise, ↓W_if, ↓W_for, ↓W_nil, ↓W_cons, ↓W_try, ↓W_ok, ↓W_exc, ↓WC_ok, ↓WC_exc, ↓WK_ok, ↓WK_exc, ↓TW_b, ↓DW_v, ↓DW_n, ↓IT_t, ↓IT_f, ↓IT_dt, ↓IT_df, IT_d, ↓IT_e1, ↓IT_e2, ↓IT_e3, ↓IT_e4, ↓IT_n, ↓IT_a, ↓SlW_v, ↓SlW_o, ↓OW_s, ↓FW_nx, ↓FW_rt, ↓FW_bk, ↓FW_ct, ↓RW_v, ↓RW_n, ↓RW_o, ↓bh_v, ↓bh_n, ↓bh_o, ↓Gam_glob, ↓D_add, ↓D_sub, ↓D_mul, ↓D_fdiv, ↓D_mod, ↓D_band, ↓D_bor, ↓D_bxor, ↓D_shl, ↓D_shr, ↓D_lt, ↓D_le, ↓D_gt, ↓D_ge, ↓D_eqi, ↓D_nei, ↓D_eqb, ↓D_eqll, ↓D_nell, ↓D_eqnn, ↓D_nenn, ↓D_eqnl, ↓D_nenl, ↓D_eqln, ↓D_neln, ↓D_eqtt, ↓D_nett, ↓D_ill, ↓D_itt, ↓D_neb, ↓D_isN, ↓D_inN, ↓D_isi1, ↓D_ini1, ↓D_ist1, ↓D_int1, ↓D_isl1, ↓D_inl1, ↓D_isn1, ↓D_inn1, ↓D_isb1, ↓D_inb1, ↓D_neg, ↓D_abs, ↓D_int, ↓D_intb, ↓D_lenT, ↓D_lenL, ↓D_lenS, ↓D_lenN, ↓D_lenB, ↓D_lenO, ↓D_max, ↓D_min, ↓D_ixT, ↓D_ixL, ↓D_ixS, ↓D_ixN, ↓D_ixB, ↓D_ixO, ↓D_setB, ↓D_setO, ↓D_appO, ↓D_lof, ↓D_catNN, ↓D_catNL, ↓D_catLN, ↓D_catLL, ↓D_ii, ↓D_ib, ↓D_bi, ↓D_bb, ↓BW_s, ↓OnW_s, ↓OnB_s, ↓VW_rv, ↓VW_rn, ↓VW_nx, ↓RV_rv, ↓at0, ↓at1, ↓at2, ↓at3, ↓Au_add, ↓Au_sub, ↓Au_bor, ↓Au_mul, ↓sT0, ↓sTS, ↓I1W_i, ↓I2W_i, ↓I3W_l, ↓I3W_s, ↓I3W_t, ↓I3W_n, ↓stepQ_nx, ↓stepQ_ct, ↓stepQ_bk, ↓stepQ_rt, ↓sE, ↓eg0, ↓egS, ↓st0, ↓stS, ↓true_and, ↓and_true, ↓eq_self, ↓isF_v, ↓isF_n, ↓decide_true, ↓decide_false, ↓Bool.not_true, ↓Bool.not_false, List.set_cons_zero, List.set_cons_succ, h4, smallR_in, mulOk_l, Int.toNat_natCast]
    refine W_loop_rng (fun n st => ∃ (m : Nat) (s4 : Sl), m < 2 ^ n ∧ st = ⟨[.val (.box 0), .val (.tup [.int s, .int r]), .val (.int share), .val (.int m), s4], pl ns (a + n) :: T, false⟩) ⟨0, .none, by decide, by simp⟩ ?_ ?_
    · rintro n st hn ⟨m, s4, hm, rfl⟩
      rw [Int.zero_add]
      have hm2 : m < 2 ^ (n + 1) := Nat.lt_of_lt_of_le hm (Nat.pow_le_pow_right (by omega) (by omega))
      have ea : a + ((n + 1 : Nat) : Int) = a + n + 1 := by omega
      simp -implicitDefEqProofs -dsimp (disch := omega) only [bMaskB, List.map, List.length, List.replicate, List.cons_append, List.nil_append, ↓W_dt, ↓W_fld, ↓W_meth, ↓W_make, ↓MkW_n, ↓W_popl, ↓W_setf, ↓W_augx, ↓W_asgM, ↓Gam_ncl, ↓EnW_l, ↓EnW_s, ↓EnW_n, ↓EnW_f, ↓EnW_b, ↓LG_rng, ↓LG_seq, ↓LG_enum, ↓LG_zip, ↓LG_str, ↓LG_seqR, ↓LG_enumR, ↓I3W_f, ↓I3W_b, ↓InW_s, ↓FdW_v, ↓FdW_o, ↓FdW_d, ↓InB_s, ↓D_fld, ↓D_meth, ↓D_setf, ↓SO_v, ↓SO_n, ↓SO_nf, ↓SO_d, ↓sq_f, ↓live_f, ↓live_b, ↓D_lenF, ↓D_ixF, ↓D_appF, ↓D_setF, ↓D_poplF, ↓D_lofF, ↓tp0, ↓tpS, ↓bh_f, ↓CG_rng, ↓CG_seq, ↓CG_enum, ↓CG_zip, ↓CG_str, ↓CG_seqR, ↓CG_enumR, ↓W_var, ↓W_cst, ↓W_glob, ↓W_bin, ↓W_cmp, ↓W_ix, ↓W_un, ↓W_blt, ↓W_blt2, ↓W_isi, ↓W_bits, ↓W_idx, ↓W_find, ↓W_pop, ↓W_dnew, ↓W_dix, ↓W_din, ↓W_sset, ↓D_sset, ↓W_lrg1, ↓W_lrg2, ↓W_dput, ↓StW_s, ↓ViW_i, ↓VaW_v, ↓SlW_d, ↓bh_nd, ↓OdW_s, ↓LnW_o, ↓LnW_d, ↓D_pop, ↓D_dixI, ↓D_dixS, ↓D_dinI, ↓D_dinS, ↓D_dputI, ↓D_dputS, ↓D_find, ↓D_lrg, ↓W_enum, ↓W_zip, ↓W_istr, ↓lstP_l, ↓lstP_s, ↓lstP_n, ↓lstQ_l, ↓W_revl, ↓W_revs, ↓W_sl, ↓W_bind, ↓W_partT, ↓W_partF, ↓PaW_i, ↓D_list, ↓D_tuple, ↓D_sum, ↓D_sorted, ↓D_maxl, ↓D_minl, ↓D_str, ↓D_bits, ↓D_revS, ↓D_revL, ↓D_revN, ↓seq_t, ↓seq_l, ↓seq_s, ↓seq_n, ↓seq_b, ↓seq_o, ↓ints_n, ↓ints_l, ↓inta_n, ↓inta_l, ↓inta_t, ↓W_exi, ↓W_chain, ↓W_not, ↓W_and, ↓W_or, ↓W_ife, ↓W_tup, ↓W_lst, ↓W_call, ↓W_frz, ↓W_mkbox, ↓W_app, ↓W_enil, ↓W_econs, ↓W_rng1, ↓W_rng2, ↓W_seq, ↓W_asg, ↓W_asgO, ↓W_asgT, ↓W_aug, ↓W_setix, ↓W_expr, ↓W_ret, ↓W_retN, ↓W_pass, ↓W_brk, ↓W_cont, ↓W_raise, ↓W_if, ↓W_for, ↓W_nil, ↓W_cons, ↓W_try, ↓W_ok, ↓W_exc, ↓WC_ok, ↓WC_exc, ↓WK_ok, ↓WK_exc, ↓TW_b, ↓DW_v, ↓DW_n, ↓IT_t, ↓IT_f, ↓IT_dt, ↓IT_df, IT_d, ↓IT_e1, ↓IT_e2, ↓IT_e3, ↓IT_e4, ↓IT_n, ↓IT_a, ↓SlW_v, ↓SlW_o, ↓OW_s, ↓FW_nx, ↓FW_rt, ↓FW_bk, ↓FW_ct, ↓RW_v, ↓RW_n, ↓RW_o, ↓bh_v, ↓bh_n, ↓bh_o, ↓Gam_glob, ↓D_add, ↓D_sub, ↓D_mul, ↓D_fdiv, ↓D_mod, ↓D_band, ↓D_bor, ↓D_bxor, ↓D_shl, ↓D_shr, ↓D_lt, ↓D_le, ↓D_gt, ↓D_ge, ↓D_eqi, ↓D_nei, ↓D_eqb, ↓D_eqll, ↓D_nell, ↓D_eqnn, ↓D_nenn, ↓D_eqnl, ↓D_nenl, ↓D_eqln, ↓D_neln, ↓D_eqtt, ↓D_nett, ↓D_ill, ↓D_itt, ↓D_neb, ↓D_isN, ↓D_inN, ↓D_isi1, ↓D_ini1, ↓D_ist1, ↓D_int1, ↓D_isl1, ↓D_inl1, ↓D_isn1, ↓D_inn1, ↓D_isb1, ↓D_inb1, ↓D_neg, ↓D_abs, ↓D_int, ↓D_intb, ↓D_lenT, ↓D_lenL, ↓D_lenS, ↓D_lenN, ↓D_lenB, ↓D_lenO, ↓D_max, ↓D_min, ↓D_ixT, ↓D_ixL, ↓D_ixS, ↓D_ixN, ↓D_ixB, ↓D_ixO, ↓D_setB, ↓D_setO, ↓D_appO, ↓D_lof, ↓D_catNN, ↓D_catNL, ↓D_catLN, ↓D_catLL, ↓D_ii, ↓D_ib, ↓D_bi, ↓D_bb, ↓BW_s, ↓OnW_s, ↓OnB_s, ↓VW_rv, ↓VW_rn, ↓VW_nx, ↓RV_rv, ↓at0, ↓at1, ↓at2, ↓at3, ↓Au_add, ↓Au_sub, ↓Au_bor, ↓Au_mul, ↓sT0, ↓sTS, ↓I1W_i, ↓I2W_i, ↓I3W_l, ↓I3W_s, ↓I3W_t, ↓I3W_n, ↓stepQ_nx, ↓stepQ_ct, ↓stepQ_bk, ↓stepQ_rt, ↓sE, ↓eg0, ↓egS, ↓st0, ↓stS, ↓true_and, ↓and_true, ↓eq_self, ↓isF_v, ↓isF_n, ↓decide_true, ↓decide_false, ↓Bool.not_true, ↓Bool.not_false, List.set_cons_zero, List.set_cons_succ, pk]
      rw [ea]
      refine ⟨fun _ => ?_, fun _ => ⟨m, _, hm2, rfl⟩⟩
      simp -implicitDefEqProofs -dsimp (disch := omega) only [bMaskA, List.map, List.length, List.replicate, List.cons_append, List.nil_append, ↓W_dt, ↓W_fld, ↓W_meth, ↓W_make, ↓MkW_n, ↓W_popl, ↓W_setf, ↓W_augx, ↓W_asgM, ↓Gam_ncl, ↓EnW_l, ↓EnW_s, ↓EnW_n, ↓EnW_f, ↓EnW_b, ↓LG_rng, ↓LG_seq, ↓LG_enum, ↓LG_zip, ↓LG_str, ↓LG_seqR, ↓LG_enumR, ↓I3W_f, ↓I3W_b, ↓InW_s, ↓FdW_v, ↓FdW_o, ↓FdW_d, ↓InB_s, ↓D_fld, ↓D_meth, ↓D_setf, ↓SO_v, ↓SO_n, ↓SO_nf, ↓SO_d, ↓sq_f, ↓live_f, ↓live_b, ↓D_lenF, ↓D_ixF, ↓D_appF, ↓D_setF, ↓D_poplF, ↓D_lofF, ↓tp0, ↓tpS, ↓bh_f, ↓CG_rng, ↓CG_seq, ↓CG_enum, ↓CG_zip, ↓CG_str, ↓CG_seqR, ↓CG_enumR, ↓W_var, ↓W_cst, ↓W_glob, ↓W_bin, ↓W_cmp, ↓W_ix, ↓W_un, ↓W_blt, ↓W_blt2, ↓W_isi, ↓W_bits, ↓W_idx, ↓W_find, ↓W_pop, ↓W_dnew, ↓W_dix, ↓W_din, ↓W_sset, ↓D_sset, ↓W_lrg1, ↓W_lrg2, ↓W_dput, ↓StW_s, ↓ViW_i, ↓VaW_v, ↓SlW_d, ↓bh_nd, ↓OdW_s, ↓LnW_o, ↓LnW_d, ↓D_pop, ↓D_dixI, ↓D_dixS, ↓D_dinI, ↓D_dinS, ↓D_dputI, ↓D_dputS, ↓D_find, ↓D_lrg, ↓W_enum, ↓W_zip, ↓W_istr, ↓lstP_l, ↓lstP_s, ↓lstP_n, ↓lstQ_l, ↓W_revl, ↓W_revs, ↓W_sl, ↓W_bind, ↓W_partT, ↓W_partF, ↓PaW_i, ↓D_list, ↓D_tuple, ↓D_sum, ↓D_sorted, ↓D_maxl, ↓D_minl, ↓D_str, ↓D_bits, ↓D_revS, ↓D_revL, ↓D_revN, ↓seq_t, ↓seq_l, ↓seq_s, ↓seq_n, ↓seq_b, ↓seq_o, ↓ints_n, ↓ints_l, ↓inta_n, ↓inta_l, ↓inta_t, ↓W_exi, ↓W_chain, ↓W_not, ↓W_and, ↓W_or, ↓W_ife, ↓W_tup, ↓W_lst, ↓W_call, ↓W_frz, ↓W_mkbox, ↓W_app, ↓W_enil, ↓W_econs, ↓W_rng1, ↓W_rng2, ↓W_seq, ↓W_asg, ↓W_asgO, ↓W_asgT, ↓W_aug, ↓W_setix, ↓W_expr, ↓W_ret, ↓W_retN, ↓W_pass, ↓W_brk, ↓W_cont, ↓W_raise, ↓W_if, ↓W_for, ↓W_nil, ↓W_cons, ↓W_try, ↓W_ok, ↓W_exc, ↓WC_ok, ↓WC_exc, ↓WK_ok, ↓WK_exc, ↓TW_b, ↓DW_v, ↓DW_n, ↓IT_t, ↓IT_f, ↓IT_dt, ↓IT_df, IT_d, ↓IT_e1, ↓IT_e2, ↓IT_e3, ↓IT_e4, ↓IT_n, ↓IT_a, ↓SlW_v, ↓SlW_o, ↓OW_s, ↓FW_nx, ↓FW_rt, ↓FW_bk, ↓FW_ct, ↓RW_v, ↓RW_n, ↓RW_o, ↓bh_v, ↓bh_n, ↓bh_o, ↓Gam_glob, ↓D_add, ↓D_sub, ↓D_mul, ↓D_fdiv, ↓D_mod, ↓D_band, ↓D_bor, ↓D_bxor, ↓D_shl, ↓D_shr, ↓D_lt, ↓D_le, ↓D_gt, ↓D_ge, ↓D_eqi, ↓D_nei, ↓D_eqb, ↓D_eqll, ↓D_nell, ↓D_eqnn, ↓D_nenn, ↓D_eqnl, ↓D_nenl, ↓D_eqln, ↓D_neln, ↓D_eqtt, ↓D_nett, ↓D_ill, ↓D_itt, ↓D_neb, ↓D_isN, ↓D_inN, ↓D_isi1, ↓D_ini1, ↓D_ist1, ↓D_int1, ↓D_isl1, ↓D_inl1, ↓D_isn1, ↓D_inn1, ↓D_isb1, ↓D_inb1, ↓D_neg, ↓D_abs, ↓D_int, ↓D_intb, ↓D_lenT, ↓D_lenL, ↓D_lenS, ↓D_lenN, ↓D_lenB, ↓D_lenO, ↓D_max, ↓D_min, ↓D_ixT, ↓D_ixL, ↓D_ixS, ↓D_ixN, ↓D_ixB, ↓D_ixO, ↓D_setB, ↓D_setO, ↓D_appO, ↓D_lof, ↓D_catNN, ↓D_catNL, ↓D_catLN, ↓D_catLL, ↓D_ii, ↓D_ib, ↓D_bi, ↓D_bb, ↓BW_s, ↓OnW_s, ↓OnB_s, ↓VW_rv, ↓VW_rn, ↓VW_nx, ↓RV_rv, ↓at0, ↓at1, ↓at2, ↓at3, ↓Au_add, ↓Au_sub, ↓Au_bor, ↓Au_mul, ↓sT0, ↓sTS, ↓I1W_i, ↓I2W_i, ↓I3W_l, ↓I3W_s, ↓I3W_t, ↓I3W_n, ↓stepQ_nx, ↓stepQ_ct, ↓stepQ_bk, ↓stepQ_rt, ↓sE, ↓eg0, ↓egS, ↓st0, ↓stS, ↓true_and, ↓and_true, ↓eq_self, ↓isF_v, ↓isF_n, ↓decide_true, ↓decide_false, ↓Bool.not_true, ↓Bool.not_false, List.set_cons_zero, List.set_cons_succ, Int.toNat_natCast, shl_nat, bor_nat]
      exact ⟨⟨by omega, by omega, by decide⟩, _, _, Nat.or_lt_two_pow hm2 (Nat.pow_lt_pow_right (by omega) (by omega)), rfl⟩
    · rintro st ⟨m, s4, hm, rfl⟩
      simp -implicitDefEqProofs -dsimp (disch := omega) only [bMaskT, List.map, List.length, List.replicate, List.cons_append, List.nil_append, ↓W_dt, ↓W_fld, ↓W_meth, ↓W_make, ↓MkW_n, ↓W_popl, ↓W_setf, ↓W_augx, ↓W_asgM, ↓Gam_ncl, ↓EnW_l, ↓EnW_s, ↓EnW_n, ↓EnW_f, ↓EnW_b, ↓LG_rng, ↓LG_seq, ↓LG_enum, ↓LG_zip, ↓LG_str, ↓LG_seqR, ↓LG_enumR, ↓I3W_f, ↓I3W_b, ↓InW_s, ↓FdW_v, ↓FdW_o, ↓FdW_d, ↓InB_s, ↓D_fld, ↓D_meth, ↓D_setf, ↓SO_v, ↓SO_n, ↓SO_nf, ↓SO_d, ↓sq_f, ↓live_f, ↓live_b, ↓D_lenF, ↓D_ixF, ↓D_appF, ↓D_setF, ↓D_poplF, ↓D_lofF, ↓tp0, ↓tpS, ↓bh_f, ↓CG_rng, ↓CG_seq, ↓CG_enum, ↓CG_zip, ↓CG_str, ↓CG_seqR, ↓CG_enumR, ↓W_var, ↓W_cst, ↓W_glob, ↓W_bin, ↓W_cmp, ↓W_ix, ↓W_un, ↓W_blt, ↓W_blt2, ↓W_isi, ↓W_bits, ↓W_idx, ↓W_find, ↓W_pop, ↓W_dnew, ↓W_dix, ↓W_din, ↓W_sset, ↓D_sset, ↓W_lrg1, ↓W_lrg2, ↓W_dput, ↓StW_s, ↓ViW_i, ↓VaW_v, ↓SlW_d, ↓bh_nd, ↓OdW_s, ↓LnW_o, ↓LnW_d, ↓D_pop, ↓D_dixI, ↓D_dixS, ↓D_dinI, ↓D_dinS, ↓D_dputI, ↓D_dputS, ↓D_find, ↓D_lrg, ↓W_enum, ↓W_zip, ↓W_istr, ↓lstP_l, ↓lstP_s, ↓lstP_n, ↓lstQ_l, ↓W_revl, ↓W_revs, ↓W_sl, ↓W_bind, ↓W_partT, ↓W_partF, ↓PaW_i, ↓D_list, ↓D_tuple, ↓D_sum, ↓D_sorted, ↓D_maxl, ↓D_minl, ↓D_str, ↓D_bits, ↓D_revS, ↓D_revL, ↓D_revN, ↓seq_t, ↓seq_l, ↓seq_s, ↓seq_n, ↓seq_b, ↓seq_o, ↓ints_n, ↓ints_l, ↓inta_n, ↓inta_l, ↓inta_t, ↓W_exi, ↓W_chain, ↓W_not, ↓W_and, ↓W_or, ↓W_ife, ↓W_tup, ↓W_lst, ↓W_call, ↓W_frz, ↓W_mkbox, ↓W_app, ↓W_enil, ↓W_econs, ↓W_rng1, ↓W_rng2, ↓W_seq, ↓W_asg, ↓W_asgO, ↓W_asgT, ↓W_aug, ↓W_setix, ↓W_expr, ↓W_ret, ↓W_retN, ↓W_pass, ↓W_brk, ↓W_cont, ↓W_raise, ↓W_if, ↓W_for, ↓W_nil, ↓W_cons, ↓W_try, ↓W_ok, ↓W_exc, ↓WC_ok, ↓WC_exc, ↓WK_ok, ↓WK_exc, ↓TW_b, ↓DW_v, ↓DW_n, ↓IT_t, ↓IT_f, ↓IT_dt, ↓IT_df, IT_d, ↓IT_e1, ↓IT_e2, ↓IT_e3, ↓IT_e4, ↓IT_n, ↓IT_a, ↓SlW_v, ↓SlW_o, ↓OW_s, ↓FW_nx, ↓FW_rt, ↓FW_bk, ↓FW_ct, ↓RW_v, ↓RW_n, ↓RW_o, ↓bh_v, ↓bh_n, ↓bh_o, ↓Gam_glob, ↓D_add, ↓D_sub, ↓D_mul, ↓D_fdiv, ↓D_mod, ↓D_band, ↓D_bor, ↓D_bxor, ↓D_shl, ↓D_shr, ↓D_lt, ↓D_le, ↓D_gt, ↓D_ge, ↓D_eqi, ↓D_nei, ↓D_eqb, ↓D_eqll, ↓D_nell, ↓D_eqnn, ↓D_nenn, ↓D_eqnl, ↓D_nenl, ↓D_eqln, ↓D_neln, ↓D_eqtt, ↓D_nett, ↓D_ill, ↓D_itt, ↓D_neb, ↓D_isN, ↓D_inN, ↓D_isi1, ↓D_ini1, ↓D_ist1, ↓D_int1, ↓D_isl1, ↓D_inl1, ↓D_isn1, ↓D_inn1, ↓D_isb1, ↓D_inb1, ↓D_neg, ↓D_abs, ↓D_int, ↓D_intb, ↓D_lenT, ↓D_lenL, ↓D_lenS, ↓D_lenN, ↓D_lenB, ↓D_lenO, ↓D_max, ↓D_min, ↓D_ixT, ↓D_ixL, ↓D_ixS, ↓D_ixN, ↓D_ixB, ↓D_ixO, ↓D_setB, ↓D_setO, ↓D_appO, ↓D_lof, ↓D_catNN, ↓D_catNL, ↓D_catLN, ↓D_catLL, ↓D_ii, ↓D_ib, ↓D_bi, ↓D_bb, ↓BW_s, ↓OnW_s, ↓OnB_s, ↓VW_rv, ↓VW_rn, ↓VW_nx, ↓RV_rv, ↓at0, ↓at1, ↓at2, ↓at3, ↓Au_add, ↓Au_sub, ↓Au_bor, ↓Au_mul, ↓sT0, ↓sTS, ↓I1W_i, ↓I2W_i, ↓I3W_l, ↓I3W_s, ↓I3W_t, ↓I3W_n, ↓stepQ_nx, ↓stepQ_ct, ↓stepQ_bk, ↓stepQ_rt, ↓sE, ↓eg0, ↓egS, ↓st0, ↓stS, ↓true_and, ↓and_true, ↓eq_self, ↓isF_v, ↓isF_n, ↓decide_true, ↓decide_false, ↓Bool.not_true, ↓Bool.not_false, List.set_cons_zero, List.set_cons_succ]
      exact ⟨m, hm, rfl⟩
  generalize run p k f false [.box 0, .tup [.int s, .int r], .int share] (pl ns a :: T) = res at key ⊢
  match res with
  | .ok h S => obtain ⟨m, a1, rfl, rfl⟩ := key; exact ⟨m, a1, rfl⟩
  | .exc _ _ => exact key.elim
  | .stuck => exact key.elim
end EV
namespace EV
open PySem PySem.Spec PyProof.Rows L2
section
variable (st : Sta) (P : Hd → Prop) (ds : List Dt) (lo hi : Option Int)
theorem D_slL : OW (slD st (.val (.lst ds)) lo hi) P = P (.new (EV.cutD ds lo hi)) := rfl
theorem cut_take (n : Nat) : EV.cutD ds none (some (n : Int)) = ds.take n := by
  unfold EV.cutD HT.sIx
  simp only [Int.toNat_natCast, Nat.sub_zero, List.drop_zero]
  rw [if_neg (by omega), List.take_eq_take_iff]
  omega
theorem cut_drop (n : Nat) : EV.cutD ds (some (n : Int)) none = ds.drop n := by
  unfold EV.cutD HT.sIx
  simp only [Int.toNat_natCast]
  rw [if_neg (by omega)]
  rcases Nat.le_total n ds.length with h | h
  · rw [Nat.min_eq_left h, List.take_of_length_le (by simp)]
  · rw [Nat.min_eq_right h, List.drop_eq_nil_of_le h, List.drop_length, List.take_nil]
end
theorem D_repN (st : Sta) (P : Hd → Prop) (ds : List Dt) (i : Int) : OW (binD .mul st (.new ds) (.val (.int i))) P = ((-(2 ^ 63) ≤ i ∧ i < 2 ^ 63 ∧ ds.length * i.toNat ≤ sizeLine) ∧ P (.new (List.replicate i.toNat ds).flatten)) := OW_ite _ _ _
theorem nat_rev (cs : List Nat) : (natsD cs).reverse = natsD cs.reverse := List.map_reverse.symm
theorem nat_take (cs : List Nat) (n : Nat) : (natsD cs).take n = natsD (cs.take n) := List.map_take.symm
theorem nat_drop (cs : List Nat) (n : Nat) : (natsD cs).drop n = natsD (cs.drop n) := List.map_drop.symm
theorem nat_app (cs es : List Nat) : natsD cs ++ natsD es = natsD (cs ++ es) := List.map_append.symm
theorem D_nenat (st : Sta) (P : Hd → Prop) (cs : List Nat) : OW (cmpD .ne st (.val (.lst (natsD cs))) (.val (.lst (natsD cs)))) P = P (.val (.bl false)) := by
  rw [natsD_ints, D_nell]; simp
theorem D_ne00 (st : Sta) (P : Hd → Prop) : OW (cmpD .ne st (.new []) (.new [])) P = P (.val (.bl false)) := D_nenn st P [] []
theorem D_eq00 (st : Sta) (P : Hd → Prop) : OW (cmpD .eq st (.new []) (.new [])) P = P (.val (.bl true)) := D_eqnn st P [] []
theorem cards_sorted (m n : Nat) : (cardsN m n).Pairwise (· < ·) := List.Pairwise.filter _ List.pairwise_lt_range
theorem sorted_take {cs : List Nat} (h : cs.Pairwise (· < ·)) {n c : Nat} (hc : cs[n]? = some c) : ∀ x ∈ cs.take n, x < c := by
  intro x hx
  obtain ⟨i, hi, rfl⟩ := List.getElem_of_mem hx
  rw [List.length_take] at hi
  have hn : n < cs.length := by
    rcases Nat.lt_or_ge n cs.length with h | h
    · exact h
    · rw [List.getElem?_eq_none h] at hc; cases hc
  have e : cs[n] = c := by rw [List.getElem?_eq_getElem hn] at hc; exact Option.some.inj hc
  rw [List.getElem_take, ← e]
  exact List.pairwise_iff_getElem.1 h i n (by omega) hn (by omega)
theorem add_or (m c : Nat) (h : m < 2 ^ c) : m + 2 ^ c = m ||| 2 ^ c := by
  have := Nat.two_pow_add_eq_or_of_lt h 1
  rw [Nat.mul_one] at this
  rw [Nat.add_comm, this, Nat.or_comm]
/-- the cards of a suit -/
theorem suit_mask (m r s n : Nat) (hm : m < 2 ^ n) (hr : 0 < r) : maskN ((cardsN m n).filter fun c => decide (c / r = s)) = suitN m r s := by
  apply Nat.eq_of_testBit_eq
  intro i
  rw [maskN_bit, suitN_bit]
  by_cases hb : m.testBit i = true
  · have hi : i < n := by
      rcases Nat.lt_or_ge i n with h | h
      · exact h
      · rw [Nat.testBit_lt_two_pow (Nat.lt_of_lt_of_le hm (Nat.pow_le_pow_right (by omega) h))] at hb; cases hb
    have e : (i / r = s) ↔ (s * r ≤ i ∧ i < s * r + r) := by
      rw [Nat.div_eq_iff hr]
      constructor
      · rintro ⟨h1, h2⟩; exact ⟨by omega, by omega⟩
      · rintro ⟨h1, h2⟩; exact ⟨by omega, by omega⟩
    rw [hb, Bool.true_and, ← Bool.decide_and]
    apply decide_eq_decide.2
    rw [List.mem_filter, cardsN_mem, decide_eq_true_eq, e]
    exact ⟨fun h => h.2, fun h => ⟨⟨hi, hb⟩, h⟩⟩
  · have hb : m.testBit i = false := by simpa using hb
    rw [hb, Bool.false_and]
    simp only [decide_eq_false_iff_not, List.mem_filter, cardsN_mem, hb]
    simp
end EV
namespace EV
open PySem PySem.Spec PyProof.Rows L2
/-! lists of naturals -/
theorem flats_nat (cs : List Nat) : flatsD (natsD cs) = some (cs.map fun (c : Nat) => V.int c) := by
  induction cs with
  | nil => rfl
  | cons c cs ih =>
    show (match flatD (.int c), flatsD (natsD cs) with | some v, some vs => some (v :: vs) | _, _ => none) = _
    rw [ih]; rfl
theorem inV_nat (c : Nat) (cs : List Nat) : inV (V.int c) (cs.map fun (c : Nat) => V.int c) = decide (c ∈ cs) := by
  unfold inV
  induction cs with
  | nil => rfl
  | cons x xs ih =>
    rw [List.map_cons, List.any_cons, ih]
    show (((x : Int) == (c : Int)) || _) = _
    by_cases h : x = c
    · subst h; simp
    · have h1 : ((x : Int) == (c : Int)) = false := beq_false_of_ne (fun e => h (by omega))
      have h2 : ¬ c = x := fun e => h e.symm
      rw [h1]; simp [h2]
theorem D_notin_own (env : List Sl) (T : List Ob) (ro : Bool) (n c : Nat) (cs : List Nat) (P : Hd → Prop) (h : env[n]? = some (.own (natsD cs))) : OW (cmpD .notin ⟨env, T, ro⟩ (.val (.int c)) (.own n)) P = P (.val (.bl (!decide (c ∈ cs)))) := by
  have e : inFlat ⟨env, T, ro⟩ (.val (.int c)) (.own n) = some (decide (c ∈ cs)) := by
    have e1 : seqOf ⟨env, T, ro⟩ (.own n) = some (true, natsD cs) := by
      show (match env[n]? with | some (.own ds) => some (true, ds) | _ => none) = _
      rw [h]
    unfold inFlat
    rw [e1]
    show (match flatD (.int c), flatsD (natsD cs) with | some v, some vs => some (inV v vs) | _, _ => none) = _
    rw [flats_nat]
    show some (inV (V.int c) _) = _
    rw [inV_nat]
  have e2 : inD ⟨env, T, ro⟩ (.val (.int c)) (.own n) = some (decide (c ∈ cs)) := by
    show (match inFlat ⟨env, T, ro⟩ (.val (.int c)) (.own n) with | some b => some b | none => inData _ _ _) = _
    rw [e]
  show OW ((inD ⟨env, T, ro⟩ (.val (.int c)) (.own n)).map _) P = _
  rw [e2]; rfl
theorem idx_nat (st : Sta) (cs : List Nat) (b : Nat) (hb : b < cs.length) (hn : cs.Nodup) (P : Hd → Prop) : OW (idxD st (.val (.lst (natsD cs))) (.val (.int (cs.getD b 0 : Nat)))) P = P (.val (.int b)) := by
  have hx : cs.getD b 0 = cs[b] := by rw [List.getD_eq_getElem?_getD, List.getElem?_eq_getElem hb]; rfl
  have e : idxF st (.val (.lst (natsD cs))) (.val (.int (cs.getD b 0 : Nat))) = some b := by
    show (match flatD (.int (cs.getD b 0 : Nat)), flatsD (natsD cs) with | some v, some vs => vs.findIdx? (fun z => eqV z v) | _, _ => none) = _
    rw [flats_nat]
    show List.findIdx? (fun z => eqV z (V.int (cs.getD b 0 : Nat))) (cs.map fun (c : Nat) => V.int c) = some b
    rw [List.findIdx?_eq_some_iff_getElem]
    refine ⟨by rw [List.length_map]; exact hb, ?_, ?_⟩
    · rw [List.getElem_map, hx]
      show ((cs[b] : Int) == (cs[b] : Int)) = true
      simp
    · intro j hj
      rw [List.getElem_map, hx]
      show ¬ ((cs[j] : Int) == (cs[b] : Int)) = true
      have : cs[j] ≠ cs[b] := List.pairwise_iff_getElem.1 hn j b (by omega) hb hj
      have h2 : ((cs[j] : Int) == (cs[b] : Int)) = false := beq_false_of_ne (fun e => this (by omega))
      rw [h2]; exact Bool.false_ne_true
  unfold idxD
  rw [e]; rfl
theorem D_neN (st : Sta) (P : Hd → Prop) (xs : List Nat) : OW (cmpD .ne st (.val (.lst (natsD xs))) (.new [])) P = P (.val (.bl (!decide (xs = [])))) := by
  rw [natsD_ints]
  have := D_neln st P (xs.map fun (c : Nat) => (c : Int)) []
  rw [show (([] : List Int).map Dt.int) = [] from rfl] at this
  rw [this]; simp
theorem nat_filt (cs : List Nat) (p : Dt → Bool) (q : Nat → Bool) (h : ∀ c : Nat, p (.int c) = q c) : (natsD cs).filter p = natsD (cs.filter q) := by
  unfold natsD
  induction cs with
  | nil => rfl
  | cons x xs ih =>
    rw [List.map_cons, List.filter_cons, List.filter_cons, h, ih]
    cases q x <;> rfl
theorem ints_nat (st : Sta) (xs : List Nat) : intsH st (.val (.lst (natsD xs))) = some (xs.map fun (c : Nat) => (c : Int)) := by
  rw [natsD_ints]; exact intsOf_map _
theorem getD_mem (cs : List Nat) (b : Nat) (h : b < cs.length) : cs.getD b 0 ∈ cs := by
  rw [List.getD_eq_getElem?_getD, List.getElem?_eq_getElem h]; exact List.getElem_mem h
theorem mem_getD (cs : List Nat) (x : Nat) (h : x ∈ cs) : ∃ i, i < cs.length ∧ cs.getD i 0 = x := by
  obtain ⟨i, hi, rfl⟩ := List.getElem_of_mem h
  exact ⟨i, hi, by rw [List.getD_eq_getElem?_getD, List.getElem?_eq_getElem hi]; rfl⟩
theorem D_notin_l (st : Sta) (c : Nat) (cs : List Nat) (P : Hd → Prop) : OW (cmpD .notin st (.val (.int c)) (.val (.lst (natsD cs)))) P = P (.val (.bl (!decide (c ∈ cs)))) := by
  have e : inFlat st (.val (.int c)) (.val (.lst (natsD cs))) = some (decide (c ∈ cs)) := by
    show (match flatD (.int c), flatsD (natsD cs) with | some v, some vs => some (inV v vs) | _, _ => none) = _
    rw [flats_nat]
    show some (inV (V.int c) _) = _
    rw [inV_nat]
  have e2 : inD st (.val (.int c)) (.val (.lst (natsD cs))) = some (decide (c ∈ cs)) := by
    show (match inFlat st (.val (.int c)) (.val (.lst (natsD cs))) with | some b => some b | none => inData _ _ _) = _
    rw [e]
  show OW ((inD st (.val (.int c)) (.val (.lst (natsD cs)))).map _) P = _
  rw [e2]; rfl
theorem D_in_l (st : Sta) (c : Nat) (cs : List Nat) (P : Hd → Prop) : OW (cmpD .inn st (.val (.int c)) (.val (.lst (natsD cs)))) P = P (.val (.bl (decide (c ∈ cs)))) := by
  have e : inFlat st (.val (.int c)) (.val (.lst (natsD cs))) = some (decide (c ∈ cs)) := by
    show (match flatD (.int c), flatsD (natsD cs) with | some v, some vs => some (inV v vs) | _, _ => none) = _
    rw [flats_nat]
    show some (inV (V.int c) _) = _
    rw [inV_nat]
  have e2 : inD st (.val (.int c)) (.val (.lst (natsD cs))) = some (decide (c ∈ cs)) := by
    show (match inFlat st (.val (.int c)) (.val (.lst (natsD cs))) with | some b => some b | none => inData _ _ _) = _
    rw [e]
  show OW ((inD st (.val (.int c)) (.val (.lst (natsD cs)))).map _) P = _
  rw [e2]; rfl
theorem natsD_get (cs : List Nat) (k : Nat) : (natsD cs)[k]? = cs[k]?.map fun (c : Nat) => Dt.int c := by unfold natsD; rw [List.getElem?_map]
theorem at_nat (cs : List Nat) (k : Nat) (h : k < cs.length) : atI (natsD cs) (k : Int) = some (.int (cs.getD k 0 : Nat)) := by
  rw [at_in _ _ (by omega) (by rw [natsD_len]; omega), Int.toNat_natCast, natsD_get, List.getD_eq_getElem?_getD, List.getElem?_eq_getElem h]; rfl
theorem rngL_nat (n : Nat) : rngL 0 (n : Int) = natsD (List.range n) := by
  unfold rngL natsD
  rw [Int.sub_zero, Int.toNat_natCast]
  apply List.map_congr_left
  intro a _
  rw [Int.zero_add]
theorem rngD_nat (n : Nat) : rngD 0 n = natsD (List.range n) := by
  unfold rngD natsD
  apply List.map_congr_left
  intro a _
  rw [Int.zero_add]
theorem natsD_mem {cs : List Nat} {d : Dt} (h : d ∈ natsD cs) : ∃ c, c ∈ cs ∧ d = .int (c : Nat) := by
  obtain ⟨c, hc, rfl⟩ := List.mem_map.1 h
  exact ⟨c, hc, rfl⟩
/-- a comprehension over naturals that makes naturals -/
theorem W_comp_nat {Γ : Gm} {v : Itv} {cs : List Nat} (hv : Items v (natsD cs)) {i : Nat} {cond elt : E} {env : List Sl} {T : List Ob} {ro : Bool} (q : Nat → Bool) (f : Nat → Nat) {Q : Hd → Sta → Prop} {X : Nat → Sta → Prop} {sl : Sl}
    (he : env[i]? = some sl) (ho : sl.isOwn = false) (hl : cs.length ≤ sizeLine)
    (hc : ∀ c : Nat, c ∈ cs → W (evE Γ cond ⟨env.set i (.val (.int c)), T, ro⟩) (fun h s => h = .val (.bl (q c)) ∧ s = ⟨env.set i (.val (.int c)), T, ro⟩) (fun _ _ => False))
    (hx : ∀ c : Nat, c ∈ cs → q c = true → W (evE Γ elt ⟨env.set i (.val (.int c)), T, ro⟩) (fun h s => h = .val (.int (f c : Nat)) ∧ s = ⟨env.set i (.val (.int c)), T, ro⟩) (fun _ _ => False))
    (hq : Q (.new (natsD ((cs.filter q).map f))) ⟨env, T, ro⟩) :
    CW Γ elt (.name i) cond [i] v ⟨env, T, ro⟩ Q X ⟨⟩ := by
  refine W_comp_pure hv (fun d => match d with | .int i => q i.toNat | _ => false) (fun d => match d with | .int i => .int (f i.toNat : Nat) | d => d) he ho (by rw [natsD_len]; exact hl) ?_ ?_ ?_
  · intro d hd
    obtain ⟨c, hc', rfl⟩ := natsD_mem hd
    exact hc c hc'
  · intro d hd hqd
    obtain ⟨c, hc', rfl⟩ := natsD_mem hd
    refine W_mono (hx c hc' hqd) ?_ (fun _ _ h => h)
    rintro h s ⟨rfl, rfl⟩
    exact ⟨rfl, rfl⟩
  · rw [nat_filt cs _ q (fun c => rfl)]
    have e : ((natsD (cs.filter q)).map fun d => match d with | .int i => Dt.int (f i.toNat : Nat) | d => d) = natsD ((cs.filter q).map f) := by
      unfold natsD
      rw [List.map_map, List.map_map]
      rfl
    rw [e]; exact hq
theorem wip_ids (env : List Sl) (ids : List Nat) : True := trivial
/-- over enumerate(..), two names -/
theorem W_loopE {Γ : Gm} {ds : List Dt} {i j : Nat} {cond elt : E} {env : List Sl} {T : List Ob} {ro : Bool} (c : Nat → Dt → Bool) (x : Nat → Dt → Dt) {Q : List Dt → Sta → Prop} {X : Nat → Sta → Prop} (hl : ds.length ≤ sizeLine)
    (hc : ∀ (k : Nat) d, ds[k]? = some d → W (evE Γ cond ⟨(((env.set j .none).set i .none).set i (.val (.int k))).set j (.val d), T, ro⟩) (fun h s => h = .val (.bl (c k d)) ∧ s = ⟨(((env.set j .none).set i .none).set i (.val (.int k))).set j (.val d), T, ro⟩) (fun _ _ => False))
    (hx : ∀ (k : Nat) d, ds[k]? = some d → c k d = true → W (evE Γ elt ⟨(((env.set j .none).set i .none).set i (.val (.int k))).set j (.val d), T, ro⟩) (fun h s => (DW h fun y => y = x k d) ∧ s = ⟨(((env.set j .none).set i .none).set i (.val (.int k))).set j (.val d), T, ro⟩) (fun _ _ => False))
    (hq : ∀ s : Sta, s.S = T → s.ro = ro → ((s.env.set j .none).set i .none = (env.set j .none).set i .none) → Q (((ds.zipIdx).filter fun p => c p.2 p.1).map fun p => x p.2 p.1) s) :
    ∀ (m k : Nat) (acc : List Dt) (s : Sta), k + m = ds.length → s.S = T → s.ro = ro → ((s.env.set j .none).set i .none = (env.set j .none).set i .none) → acc = ((((ds.take k).zipIdx).filter fun p => c p.2 p.1).map fun p => x p.2 p.1) →
      W (loopC (.enum ds) [i, j] (.tup [i, j]) (fun s => (evE Γ cond s).truth.noexc) (fun s => (evE Γ elt s).dt.noexc) m k acc s) Q X := by
  intro m
  induction m with
  | zero =>
    intro k acc s hk h1 h2 h3 ha
    have hk : k = ds.length := by omega
    subst hk
    have e : (Itv.enum ds).at s ds.length = some none := by
      show some (ds[ds.length]?.map _) = _
      rw [List.getElem?_eq_none (Nat.le_refl _)]; rfl
    rw [loopC_eq, e]
    rw [List.take_length] at ha
    subst ha
    exact hq s h1 h2 h3
  | succ m ih =>
    intro k acc s hk h1 h2 h3 ha
    have hlt : k < ds.length := by omega
    have hd : ds[k]? = some ds[k] := List.getElem?_eq_getElem hlt
    have e : (Itv.enum ds).at s k = some (some (.tup [.int k, ds[k]])) := by
      show some (ds[k]?.map _) = _
      rw [hd]; rfl
    rw [loopC_eq, e]
    obtain ⟨senv, sS, sro⟩ := s
    have h1 : sS = T := h1
    have h2 : sro = ro := h2
    subst h1 h2
    have h3 : (senv.set j .none).set i .none = (env.set j .none).set i .none := h3
    have e2 : Tg.set (.tup [i, j]) (Sta.wip ⟨senv, sS, sro⟩ [i, j]) (.tup [.int k, ds[k]]) = some ⟨(((env.set j .none).set i .none).set i (.val (.int k))).set j (.val ds[k]), sS, sro⟩ := by
      show some (Sta.mk ((((senv.set j .none).set i .none).set i _).set j _) sS sro) = _
      rw [h3]
    show W (match m + 1, Tg.set (.tup [i, j]) (Sta.wip ⟨senv, sS, sro⟩ [i, j]) (.tup [.int k, ds[k]]) with
      | n + 1, some st1 => ((evE Γ cond st1).truth.noexc).bind fun b st2 => if b then ((evE Γ elt st2).dt.noexc).bind fun x st3 => if acc.length < sizeLine then loopC (.enum ds) [i, j] (.tup [i, j]) _ _ n (k + 1) (acc ++ [x]) st3 else .stuck
        else loopC (.enum ds) [i, j] (.tup [i, j]) _ _ n (k + 1) acc st2
      | _, _ => .stuck) Q X
    rw [e2]
    have hback : ∀ (d : Dt), ((((((env.set j .none).set i .none).set i (.val (.int k))).set j (.val d)).set j .none).set i .none) = (env.set j .none).set i .none := by
      intro d
      apply List.ext_getElem?
      intro n
      simp only [List.getElem?_set, List.length_set]
      grind
    have ht : ds.take (k + 1) = ds.take k ++ [ds[k]] := by
      rw [List.take_add_one, hd]; rfl
    have hz : ((ds.take (k + 1)).zipIdx) = (ds.take k).zipIdx ++ [(ds[k], k)] := by
      rw [ht, List.zipIdx_append]
      congr 1
      rw [List.length_take, Nat.min_eq_left (by omega)]
      simp
    have hlen : acc.length < sizeLine := by
      rw [ha, List.length_map]
      have := List.length_filter_le (fun p : Dt × Nat => c p.2 p.1) (ds.take k).zipIdx
      rw [List.length_zipIdx, List.length_take] at this
      omega
    show W (Res.bind _ _) Q X
    rw [W_bind, W_noexc, W_truth]
    refine W_mono (hc k _ hd) ?_ (fun _ _ h => h.elim)
    rintro h s2 ⟨rfl, rfl⟩
    rw [TW_b, W_ite]
    cases hcd : c k ds[k] with
    | true =>
      rw [IT_t, W_bind, W_noexc, W_dt]
      refine W_mono (hx k _ hd hcd) ?_ (fun _ _ h => h.elim)
      rintro h s3 ⟨h4, rfl⟩
      have fin : W (loopC (.enum ds) [i, j] (.tup [i, j]) (fun s => (evE Γ cond s).truth.noexc) (fun s => (evE Γ elt s).dt.noexc) m (k + 1) (acc ++ [x k ds[k]]) ⟨(((env.set j .none).set i .none).set i (.val (.int k))).set j (.val ds[k]), sS, sro⟩) Q X :=
        ih (k + 1) _ _ (by omega) rfl rfl (hback _) (by rw [hz, List.filter_append, List.map_append, ← ha]; simp [hcd])
      cases h with
      | val y => have h4 : y = x k ds[k] := h4; subst h4; rw [DW_v, W_dite]; exact ⟨hlen, fin⟩
      | new y => have h4 : Dt.lst y = x k ds[k] := h4; rw [DW_n, h4, W_dite]; exact ⟨hlen, fin⟩
      | _ => exact h4.elim
    | false =>
      rw [IT_f]
      exact ih (k + 1) _ _ (by omega) rfl rfl (hback _) (by rw [hz, List.filter_append, List.map_append, ← ha]; simp [hcd])
theorem W_comp_enum {Γ : Gm} {ds : List Dt} {i j : Nat} {cond elt : E} {env : List Sl} {T : List Ob} {ro : Bool} (c : Nat → Dt → Bool) (x : Nat → Dt → Dt) {Q : Hd → Sta → Prop} {X : Nat → Sta → Prop} {sl sl' : Sl} (hij : i ≠ j) (hl : ds.length ≤ sizeLine)
    (hi : env[i]? = some sl) (ho : sl.isOwn = false) (hj : env[j]? = some sl') (ho' : sl'.isOwn = false)
    (hc : ∀ (k : Nat) d, ds[k]? = some d → W (evE Γ cond ⟨(((env.set j .none).set i .none).set i (.val (.int k))).set j (.val d), T, ro⟩) (fun h s => h = .val (.bl (c k d)) ∧ s = ⟨(((env.set j .none).set i .none).set i (.val (.int k))).set j (.val d), T, ro⟩) (fun _ _ => False))
    (hx : ∀ (k : Nat) d, ds[k]? = some d → c k d = true → W (evE Γ elt ⟨(((env.set j .none).set i .none).set i (.val (.int k))).set j (.val d), T, ro⟩) (fun h s => (DW h fun y => y = x k d) ∧ s = ⟨(((env.set j .none).set i .none).set i (.val (.int k))).set j (.val d), T, ro⟩) (fun _ _ => False))
    (hq : Q (.new (((ds.zipIdx).filter fun p => c p.2 p.1).map fun p => x p.2 p.1)) ⟨env, T, ro⟩) :
    CW Γ elt (.tup [i, j]) cond [i, j] (.enum ds) ⟨env, T, ro⟩ Q X ⟨⟩ := by
  refine ⟨by simp [ownFree, hi, ho, hj, ho'], ?_⟩
  refine W_loopE (env := env) (T := T) (ro := ro) c x hl hc hx ?_ ds.length 0 [] ⟨env, T, ro⟩ (by omega) rfl rfl rfl rfl
  rintro ⟨senv, sS, sro⟩ h1 h2 h3
  have h1 : sS = T := h1
  have h2 : sro = ro := h2
  subst h1 h2
  have h3 : (senv.set j .none).set i .none = (env.set j .none).set i .none := h3
  have e : putBack [i, j] env senv = env := by
    show (senv.set j (env.getD j .none)).set i (env.getD i .none) = env
    apply List.ext_getElem?
    intro n
    have hn : ((senv.set j .none).set i .none)[n]? = ((env.set j .none).set i .none)[n]? := by rw [h3]
    have hlen : senv.length = env.length := by
      have := congrArg List.length h3
      simpa using this
    have gi : env.getD i .none = sl := by rw [List.getD_eq_getElem?_getD, hi]; rfl
    have gj : env.getD j .none = sl' := by rw [List.getD_eq_getElem?_getD, hj]; rfl
    have li : i < env.length := by
      rcases Nat.lt_or_ge i env.length with h | h
      · exact h
      · rw [List.getElem?_eq_none h] at hi; cases hi
    have lj : j < env.length := by
      rcases Nat.lt_or_ge j env.length with h | h
      · exact h
      · rw [List.getElem?_eq_none h] at hj; cases hj
    rw [gi, gj]
    by_cases n1 : i = n
    · subst n1; rw [List.getElem?_set_self (by rw [List.length_set, hlen]; exact li), hi]
    · rw [List.getElem?_set_ne n1]
      rw [List.getElem?_set_ne n1, List.getElem?_set_ne n1] at hn
      by_cases n2 : j = n
      · subst n2; rw [List.getElem?_set_self (by rw [hlen]; exact lj), hj]
      · rw [List.getElem?_set_ne n2]
        rw [List.getElem?_set_ne n2, List.getElem?_set_ne n2] at hn
        exact hn
  show Q (.new _) ⟨putBack [i, j] env senv, sS, sro⟩
  rw [e]
  exact hq
theorem sorted_ext : ∀ {xs ys : List Nat}, xs.Pairwise (· < ·) → ys.Pairwise (· < ·) → (∀ a, a ∈ xs ↔ a ∈ ys) → xs = ys
  | [], [], _, _, _ => rfl
  | [], y :: ys, _, _, h => absurd ((h y).2 List.mem_cons_self) (by simp)
  | x :: xs, [], _, _, h => absurd ((h x).1 List.mem_cons_self) (by simp)
  | x :: xs, y :: ys, hx, hy, h => by
    have hx' := List.pairwise_cons.1 hx
    have hy' := List.pairwise_cons.1 hy
    have e : x = y := by
      rcases List.mem_cons.1 ((h x).1 List.mem_cons_self) with e | e
      · exact e
      · rcases List.mem_cons.1 ((h y).2 List.mem_cons_self) with e2 | e2
        · exact e2.symm
        · have a := hy'.1 x e
          have b := hx'.1 y e2
          omega
    subst e
    congr 1
    refine sorted_ext hx'.2 hy'.2 fun a => ?_
    constructor
    · intro ha
      rcases List.mem_cons.1 ((h a).1 (List.mem_cons_of_mem _ ha)) with e | e
      · have := hx'.1 a ha; omega
      · exact e
    · intro ha
      rcases List.mem_cons.1 ((h a).2 (List.mem_cons_of_mem _ ha)) with e | e
      · have := hy'.1 a ha; omega
      · exact e
theorem cards_mask (cs : List Nat) (n : Nat) (hs : cs.Pairwise (· < ·)) (hn : ∀ c ∈ cs, c < n) : cardsN (maskN cs) n = cs := by
  refine sorted_ext (cards_sorted _ _) hs fun a => ?_
  rw [cardsN_mem, maskN_bit, decide_eq_true_eq]
  exact ⟨fun h => h.2, fun h => ⟨hn a h, h⟩⟩
theorem sorted_nodup {cs : List Nat} (hs : cs.Pairwise (· < ·)) : cs.Nodup := hs.imp (fun h => Nat.ne_of_lt h)
end EV
namespace EV
open PySem PySem.Spec PyProof.Rows L2
/-! auctions -/
theorem loopC_enumR (ds : List Dt) (own : List Nat) (tg : Tg) (c : Sta → Res Bool) (e : Sta → Res Dt) : ∀ (n k : Nat) (acc : List Dt) (st : Sta), loopC (.enumR ds) own tg c e n k acc st = loopC (.enum ds) own tg c e n k acc st
  | 0, k, acc, st => by rw [loopC_eq, loopC_eq]; rfl
  | n + 1, k, acc, st => by
    have ih := loopC_enumR ds own tg c e n
    rw [loopC_eq, loopC_eq]
    show (match (Itv.enum ds).at st k with | none => _ | some none => _ | some (some d) => _) = _
    cases h : (Itv.enum ds).at st k with
    | none => rfl
    | some o =>
      cases o with
      | none => rfl
      | some d =>
        show (match n + 1, tg.set (st.wip own) d with
          | n + 1, some st1 => (c st1).bind fun b st2 => if b then (e st2).bind fun x st3 => if acc.length < sizeLine then loopC (.enumR ds) own tg c e n (k + 1) (acc ++ [x]) st3 else .stuck
            else loopC (.enumR ds) own tg c e n (k + 1) acc st2
          | _, _ => .stuck) = (match n + 1, tg.set (st.wip own) d with
          | n + 1, some st1 => (c st1).bind fun b st2 => if b then (e st2).bind fun x st3 => if acc.length < sizeLine then loopC (.enum ds) own tg c e n (k + 1) (acc ++ [x]) st3 else .stuck
            else loopC (.enum ds) own tg c e n (k + 1) acc st2
          | _, _ => .stuck)
        cases tg.set (st.wip own) d with
        | none => rfl
        | some st1 => simp only [ih]
theorem CW_enumR (Γ : Gm) (elt tg cond own ds st1 Q X tok) : CW Γ elt tg cond own (.enumR ds) st1 Q X tok = CW Γ elt tg cond own (.enum ds) st1 Q X ⟨⟩ := by
  unfold CW
  rw [loopC_enumR]
  rfl
inductive Cl where
  | pass | dbl | rdb | bid (l s : Nat)
  deriving DecidableEq
def Cl.dt : Cl → Dt
  | .pass => .tup [.str "pass"]
  | .dbl => .tup [.str "double"]
  | .rdb => .tup [.str "redouble"]
  | .bid l s => .tup [.str "bid", .int l, .int s]
def Cl.py : Cl → PyData
  | .pass => .tuple [.str "pass"]
  | .dbl => .tuple [.str "double"]
  | .rdb => .tuple [.str "redouble"]
  | .bid l s => .tuple [.str "bid", .int l, .int s]
def Cl.isBid : Cl → Bool
  | .bid _ _ => true
  | _ => false
def Cl.np (c : Cl) : Bool := !decide (c = .pass)
def clsD (cs : List Cl) : List Dt := cs.map Cl.dt
theorem clsD_len (cs : List Cl) : (clsD cs).length = cs.length := List.length_map ..
theorem cl_toPy (c : Cl) : toPy c.dt = some c.py := by cases c <;> rfl
theorem cl_pyOf (st : Sta) (c : Cl) : pyOf st (.val c.dt) = some c.py := by cases c <;> rfl
theorem cl_eqv (a b : Cl) : PyData.eqv a.py b.py = decide (a = b) := by
  cases a <;> cases b <;> first
    | decide
    | (simp only [Cl.py, PyData.eqv, PyData.eqvAll, Bool.and_true, Bool.and_false, reduceCtorEq, decide_false] <;> first | rfl | decide | (rw [Bool.eq_iff_iff]; simp; omega))
theorem cl_can (c : Cl) : c.py.canLay0 = true := by
  have h1 : PyData.strOk (Str.ofString "pass") = true := by decide +kernel
  have h2 : PyData.strOk (Str.ofString "double") = true := by decide +kernel
  have h3 : PyData.strOk (Str.ofString "redouble") = true := by decide +kernel
  have h4 : PyData.strOk (Str.ofString "bid") = true := by decide +kernel
  cases c <;> simp [Cl.py, PyData.canLay0, PyData.canLayAll0, h1, h2, h3, h4]
theorem cl_dep (c : Cl) : c.py.depth ≤ 2 := by cases c <;> simp [Cl.py, PyData.depth, PyData.depthAll]
theorem cl_sh (c : Cl) : SeqAt.shaped c.py = true := by
  have h := cl_dep c
  simp only [SeqAt.shaped, cl_can, Bool.true_and]
  exact decide_eq_true (by omega)
theorem cls_toPys : ∀ cs : List Cl, toPys (clsD cs) = some (cs.map Cl.py)
  | [] => rfl
  | c :: cs => by
    show (match toPy c.dt, toPys (clsD cs) with | some x, some xs => some (x :: xs) | _, _ => none) = _
    rw [cl_toPy, cls_toPys cs]; rfl
theorem cls_eqv : ∀ as bs : List Cl, PyData.eqvAll (as.map Cl.py) (bs.map Cl.py) = decide (as = bs)
  | [], [] => by simp [PyData.eqvAll]
  | [], y :: ys => by simp [PyData.eqvAll]
  | x :: xs, [] => by simp [PyData.eqvAll]
  | x :: xs, y :: ys => by
    have := cls_eqv xs ys
    simp only [List.map_cons, PyData.eqvAll, cl_eqv, this]
    by_cases h : x = y <;> by_cases h2 : xs = ys <;> simp [h, h2]
theorem cls_can : ∀ cs : List Cl, PyData.canLayAll0 (cs.map Cl.py) = true
  | [] => by simp [PyData.canLayAll0]
  | c :: cs => by simp [PyData.canLayAll0, cl_can, cls_can cs]
theorem cls_dep : ∀ cs : List Cl, PyData.depthAll (cs.map Cl.py) ≤ 3
  | [] => by simp [PyData.depthAll]
  | c :: cs => by
    have := cls_dep cs
    have h := cl_dep c
    simp only [List.map_cons, PyData.depthAll]
    omega
theorem cls_sh (cs : List Cl) : SeqAt.shaped (.list (cs.map Cl.py)) = true := by
  have h := cls_dep cs
  simp only [SeqAt.shaped, PyData.canLay0, cls_can, PyData.depth, Bool.true_and]
  exact decide_eq_true (by omega)
theorem cls_pyOf {st : Sta} {x : Hd} {cs : List Cl} (h : seqOf st x = some (true, clsD cs)) : pyOf st x = some (.list (cs.map Cl.py)) := by
  unfold pyOf
  rw [h]
  simp only [cls_toPys, Option.map_some]
theorem cls_eqG {st : Sta} {x y : Hd} {as bs : List Cl} (h1 : seqOf st x = some (true, clsD as)) (h2 : seqOf st y = some (true, clsD bs)) : eqGen st x y = some (decide (as = bs)) := by
  unfold eqGen
  rw [cls_pyOf h1, cls_pyOf h2]
  simp only [cls_sh, Bool.and_self, if_true, PyData.eqv, cls_eqv]
theorem cl_eqG (st : Sta) (a b : Cl) : eqGen st (.val a.dt) (.val b.dt) = some (decide (a = b)) := by
  unfold eqGen
  rw [cl_pyOf, cl_pyOf]
  simp only [cl_sh, Bool.and_self, if_true, cl_eqv]
theorem cl_eqD (st : Sta) (a b : Cl) : eqD st (.val a.dt) (.val b.dt) = some (decide (a = b)) := by
  rw [← cl_eqG st a b]
  cases a <;> cases b <;> rfl
def Cl.word : Cl → Str
  | .pass => "pass"
  | .dbl => "double"
  | .rdb => "redouble"
  | .bid _ _ => "bid"
theorem cl_bid (c : Cl) : decide (c.word = ("bid" : Str)) = c.isBid := by cases c <;> first | rfl | decide
section
variable (st : Sta) (P : Hd → Prop) (a b : Cl)
theorem D_eqC : OW (cmpD .eq st (.val a.dt) (.val b.dt)) P = P (.val (.bl (decide (a = b)))) := by
  show OW ((eqD st _ _).map _) P = _
  rw [cl_eqD]; rfl
theorem D_neC : OW (cmpD .ne st (.val a.dt) (.val b.dt)) P = P (.val (.bl (!decide (a = b)))) := by
  show OW ((eqD st _ _).map _) P = _
  rw [cl_eqD]; rfl
theorem D_ix0C : OW (ixD st (.val a.dt) (.val (.int 0))) P = P (.val (.str a.word)) := by cases a <;> rfl
theorem D_eqS (x y : Str) : OW (cmpD .eq st (.val (.str x)) (.val (.str y))) P = P (.val (.bl (decide (x = y)))) := rfl
theorem D_neS (x y : Str) : OW (cmpD .ne st (.val (.str x)) (.val (.str y))) P = P (.val (.bl (!decide (x = y)))) := rfl
end
/-! the places of calls -/
def plN (q : Cl → Bool) (cs : List Cl) : List Nat := (List.range cs.length).filter fun k => q (cs.getD k .pass)
def lastI (q : Cl → Bool) (cs : List Cl) : Int := match (plN q cs).getLast? with
  | some k => (k : Int)
  | none => -1
theorem plN_snoc (q : Cl → Bool) (cs : List Cl) (c : Cl) : plN q (cs ++ [c]) = plN q cs ++ (if q c = true then [cs.length] else []) := by
  unfold plN
  rw [List.length_append, List.length_singleton, List.range_succ, List.filter_append]
  congr 1
  · apply List.filter_congr
    intro k hk
    have hk : k < cs.length := List.mem_range.1 hk
    rw [List.getD_eq_getElem?_getD, List.getElem?_append_left hk, List.getD_eq_getElem?_getD]
  · have e : (cs ++ [c]).getD cs.length .pass = c := by rw [List.getD_eq_getElem?_getD, List.getElem?_append_right (Nat.le_refl _)]; simp
    rw [List.filter_cons, e]
    by_cases h : q c = true
    · rw [if_pos h, if_pos h]; rfl
    · rw [if_neg h, if_neg h]; rfl
theorem plN_lt (q : Cl → Bool) (cs : List Cl) (k : Nat) (h : k ∈ plN q cs) : k < cs.length := List.mem_range.1 (List.mem_filter.1 h).1
theorem lastI_snoc (q : Cl → Bool) (cs : List Cl) (c : Cl) : lastI q (cs ++ [c]) = if q c = true then (cs.length : Int) else lastI q cs := by
  unfold lastI
  rw [plN_snoc]
  by_cases h : q c = true
  · rw [if_pos h, if_pos h, List.getLast?_append]; rfl
  · rw [if_neg h, if_neg h, List.append_nil]
theorem lastI_nil (q : Cl → Bool) : lastI q [] = -1 := rfl
theorem snoc_ind {α : Type} {p : List α → Prop} (h0 : p []) (hs : ∀ xs x, p xs → p (xs ++ [x])) : ∀ xs, p xs := by
  intro xs
  have : ∀ (n : Nat) (xs : List α), xs.length = n → p xs := by
    intro n
    induction n with
    | zero => intro xs h; rw [List.length_eq_zero_iff.1 h]; exact h0
    | succ n ih =>
      intro xs h
      rcases List.eq_nil_or_concat xs with e | ⟨ys, y, e⟩
      · rw [e] at h; cases h
      · rw [List.concat_eq_append] at e
        subst e
        rw [List.length_append, List.length_singleton] at h
        exact hs ys y (ih ys (by omega))
  exact this _ xs rfl
theorem lastI_ge (q : Cl → Bool) (cs : List Cl) : -1 ≤ lastI q cs := by
  unfold lastI
  split <;> omega
theorem lastI_lt (q : Cl → Bool) (cs : List Cl) : lastI q cs < cs.length := by
  unfold lastI
  split
  · rename_i k e
    have := plN_lt q cs k (List.mem_of_getLast? e)
    omega
  · omega
theorem lastI_none (q : Cl → Bool) (cs : List Cl) (h : plN q cs = []) : lastI q cs = -1 := by unfold lastI; rw [h]; rfl
theorem lastI_some (q : Cl → Bool) (cs : List Cl) (h : plN q cs ≠ []) : ∃ k : Nat, k < cs.length ∧ lastI q cs = k ∧ (plN q cs).getLast? = some k ∧ q (cs.getD k .pass) = true := by
  cases e : (plN q cs).getLast? with
  | none => exact absurd (List.getLast?_eq_none_iff.1 e) h
  | some k =>
    have hm := List.mem_of_getLast? e
    exact ⟨k, plN_lt q cs k hm, by unfold lastI; rw [e], rfl, (List.mem_filter.1 hm).2⟩
theorem at_neg1 (xs : List Nat) (k : Nat) (h : xs.getLast? = some k) : atI (natsD xs) (-1) = some (.int (k : Nat)) := by
  have hn : xs ≠ [] := fun e => by rw [e] at h; cases h
  have hl : 0 < xs.length := List.length_pos_iff.2 hn
  have e : ixN (natsD xs).length (-1) = some (xs.length - 1) := by
    rw [natsD_len]
    unfold ixN
    rw [if_neg (by omega), if_pos (by omega)]
    congr 1
    omega
  unfold atI
  rw [e]
  show (natsD xs)[xs.length - 1]? = _
  rw [natsD_get, ← List.getLast?_eq_getElem?, h]; rfl
/-! the instance -/
def auF (b : List Cl) (d : Int) (cs : List Cl) : List (Str × Sl) := [("_bids", .val (.lst (clsD b))), ("_dealer", .val (.int d)), ("_calls", .own (clsD cs))]
section
variable (b : List Cl) (d : Int) (cs : List Cl)
theorem au_b : (auF b d cs).lookup ("_bids" : Str) = some (.val (.lst (clsD b))) := rfl
theorem au_d : (auF b d cs).lookup ("_dealer" : Str) = some (.val (.int d)) := rfl
theorem au_c : (auF b d cs).lookup ("_calls" : Str) = some (.own (clsD cs)) := rfl
theorem au_put (c : List Cl) : putS "_calls" (.own (clsD c)) (auF b d cs) = auF b d c := rfl
theorem au_m1 : ((auF b d cs).lookup ("player_of" : Str)).isNone = true := rfl
theorem au_m2 : ((auF b d cs).lookup ("turn" : Str)).isNone = true := rfl
theorem au_m3 : ((auF b d cs).lookup ("calls" : Str)).isNone = true := rfl
theorem au_m4 : ((auF b d cs).lookup ("last" : Str)).isNone = true := rfl
theorem au_m5 : ((auF b d cs).lookup ("last_bid" : Str)).isNone = true := rfl
theorem au_m6 : ((auF b d cs).lookup ("is_over" : Str)).isNone = true := rfl
theorem au_m7 : ((auF b d cs).lookup ("legal" : Str)).isNone = true := rfl
theorem au_m8 : ((auF b d cs).lookup ("call" : Str)).isNone = true := rfl
theorem au_m9 : ((auF b d cs).lookup ("contract" : Str)).isNone = true := rfl
theorem cls_snoc (c : Cl) : clsD cs ++ [c.dt] = clsD (cs ++ [c]) := by unfold clsD; rw [List.map_append]; rfl
theorem cls_get (k : Nat) (h : k < cs.length) : atI (clsD cs) (k : Int) = some (cs.getD k .pass).dt := by
  rw [at_in _ _ (by omega) (by rw [clsD_len]; omega), Int.toNat_natCast]
  unfold clsD
  rw [List.getElem?_map, List.getElem?_eq_getElem h, List.getD_eq_getElem?_getD, List.getElem?_eq_getElem h]; rfl
theorem cls_get? (k : Nat) : (clsD cs)[k]? = cs[k]?.map Cl.dt := by unfold clsD; rw [List.getElem?_map]
theorem cls_app (es : List Cl) : clsD cs ++ clsD es = clsD (cs ++ es) := List.map_append.symm
theorem cls_drop (n : Nat) : (clsD cs).drop n = clsD (cs.drop n) := List.map_drop.symm
end
/-- what the enumerating comprehension makes -/
theorem enum_pl (q : Cl → Bool) (cs : List Cl) : ((((clsD cs).zipIdx).filter fun p => q (cs.getD p.2 .pass)).map fun p => Dt.int (p.2 : Nat)) = natsD (plN q cs) := by
  have e : ((clsD cs).zipIdx).map Prod.snd = List.range cs.length := by rw [List.zipIdx_map_snd, clsD_len, List.range_eq_range']
  unfold plN natsD
  rw [← e, List.filter_map, List.map_map]
  rfl
end EV
namespace EV
open PySem PySem.Spec PyProof.Rows L2
/-! the bids -/
theorem loopC2_eq' (v : Itv) (own : List Nat) (tg : Tg) (mi : Sta → Res Itv) (own1 : List Nat) (tg1 : Tg) (elt : Sta → Res Dt) (n k : Nat) (acc : List Dt) (st : Sta) :
    loopC2 v own tg mi own1 tg1 elt n k acc st = match v.at st k with
    | none => .stuck
    | some none => .ok acc st
    | some (some d) => (match n, tg.set (st.wip own) d with
      | n + 1, some st1 => (mi st1).bind fun w st2 => if w.isRo then .stuck else (loopC w own1 tg1 (fun s => .ok true s) elt (w.len st2) 0 acc st2).bind fun acc' st3 => loopC2 v own tg mi own1 tg1 elt n (k + 1) acc' st3
      | _, _ => .stuck) := loopC2_eq ..
theorem loopC2_turn {v : Itv} {own : List Nat} {tg : Tg} {mi : Sta → Res Itv} {own1 : List Nat} {tg1 : Tg} {elt : Sta → Res Dt} {n k : Nat} {acc acc' : List Dt} {st st1 st2 st3 : Sta} {d : Dt} {w : Itv} (h1 : v.at st k = some (some d)) (h2 : tg.set (st.wip own) d = some st1) (h3 : mi st1 = .ok w st2) (h4 : w.isRo = false)
    (h5 : loopC w own1 tg1 (fun s => .ok true s) elt (w.len st2) 0 acc st2 = .ok acc' st3) : loopC2 v own tg mi own1 tg1 elt (n + 1) k acc st = loopC2 v own tg mi own1 tg1 elt n (k + 1) acc' st3 := by
  rw [loopC2_eq, h1]
  show (match n + 1, tg.set (st.wip own) d with
      | n + 1, some st1 => (mi st1).bind fun w st2 => if w.isRo then .stuck else (loopC w own1 tg1 (fun s => .ok true s) elt (w.len st2) 0 acc st2).bind fun acc' st3 => loopC2 v own tg mi own1 tg1 elt n (k + 1) acc' st3
      | _, _ => .stuck) = _
  rw [h2]
  show (mi st1).bind _ = _
  rw [h3]
  show (if w.isRo then _ else _) = _
  rw [if_neg (by rw [h4]; exact Bool.false_ne_true), h5]
  rfl
theorem comp2_run {Γ : Gm} {elt : E} {it it1 : It} {tg tg1 : Tg} {own own1 : List Nat} {st st1 st2 : Sta} {v : Itv} {ds : List Dt} (h1 : evI Γ it st = .ok v st1) (h2 : ownFree own st1.env = true) (h3 : v.isRo = false)
    (h4 : loopC2 v own tg (fun s => (evI Γ it1 s).noexc) own1 tg1 (fun s => (evE Γ elt s).dt.noexc) (v.len st1) 0 [] st1 = .ok ds st2) : evE Γ (.comp2 elt it tg it1 tg1 own own1) st = .ok (.new ds) { st2 with env := putBack own st1.env st2.env } := by
  simp only [evE, h1]
  show (if (ownFree own st1.env && !v.isRo) = true then _ else _) = _
  rw [h2, h3, if_pos (show (true && !false) = true from rfl), h4]
  rfl
theorem W_eq {α : Type} {r : Res α} {a : α} {s : Sta} (h : W r (fun a' s' => a' = a ∧ s' = s) (fun _ _ => False)) : r = .ok a s := by
  match r with
  | .ok _ _ => obtain ⟨rfl, rfl⟩ := h; rfl
  | .exc _ _ => exact h.elim
  | .stuck => exact h.elim
theorem rng1_of {Γ : Gm} {a : E} {st st1 : Sta} {j : Int} (h : evE Γ a st = .ok (.val (.int j)) st1) (hs : smallR 0 j = true) : evI Γ (.rng1 a) st = .ok (.rng 0 j.toNat) st1 := by
  simp only [evI, h, Res.bind, hs, if_true]
theorem rng2_of {Γ : Gm} {a b : E} {st st1 st2 : Sta} {i j : Int} (h : evE Γ a st = .ok (.val (.int i)) st1) (h2 : evE Γ b st1 = .ok (.val (.int j)) st2) (hs : smallR i j = true) : evI Γ (.rng2 a b) st = .ok (.rng i (j - i).toNat) st2 := by
  simp only [evI, h, h2, Res.bind, hs, if_true]
/-- the inner loop, a range -/
theorem in_rng {e : Sta → Res Dt} {j : Nat} {env : List Sl} {T : List Ob} {ro : Bool} (f : Nat → Dt) (m : Nat) (hx : ∀ k : Nat, k < m → e ⟨env.set j (.val (.int (0 + (k : Int)))), T, ro⟩ = .ok (f k) ⟨env.set j (.val (.int (0 + (k : Int)))), T, ro⟩) :
    ∀ (n k : Nat) (acc : List Dt) (sl : Sl), k + n = m → acc.length + n ≤ sizeLine → ∃ sl', loopC (.rng 0 m) [j] (.name j) (fun s => .ok true s) e n k acc ⟨env.set j sl, T, ro⟩ = .ok (acc ++ ((List.range n).map fun i => f (k + i))) ⟨env.set j sl', T, ro⟩
  | 0, k, acc, sl, h, _ => by
    refine ⟨sl, ?_⟩
    rw [loopC_eq]
    have e0 : Itv.at (.rng 0 m) ⟨env.set j sl, T, ro⟩ k = some none := by
      show some (if k < m then some (Dt.int (0 + k)) else none) = _
      rw [if_neg (by omega)]
    rw [e0]
    simp
  | n + 1, k, acc, sl, h, hl => by
    obtain ⟨sl', ih⟩ := in_rng f m hx n (k + 1) (acc ++ [f k]) (.val (.int (0 + (k : Int)))) (by omega) (by rw [List.length_append, List.length_singleton]; omega)
    refine ⟨sl', ?_⟩
    rw [loopC_eq]
    have e1 : Itv.at (.rng 0 m) ⟨env.set j sl, T, ro⟩ k = some (some (.int (0 + (k : Int)))) := by
      show some (if k < m then some (Dt.int (0 + k)) else none) = _
      rw [if_pos (by omega)]
    have e2 : Tg.set (.name j) (Sta.wip ⟨env.set j sl, T, ro⟩ [j]) (.int (0 + (k : Int))) = some ⟨env.set j (.val (.int (0 + (k : Int)))), T, ro⟩ := by
      show some (Sta.mk (((env.set j sl).set j .none).set j _) T ro) = _
      rw [List.set_set, List.set_set]
    rw [e1]
    show (match n + 1, Tg.set (.name j) (Sta.wip ⟨env.set j sl, T, ro⟩ [j]) (.int (0 + (k : Int))) with
      | n + 1, some st1 => (Res.ok true st1).bind fun b st2 => if b then (e st2).bind fun x st3 => if acc.length < sizeLine then loopC (.rng 0 m) [j] (.name j) (fun s => .ok true s) e n (k + 1) (acc ++ [x]) st3 else .stuck
        else loopC (.rng 0 m) [j] (.name j) (fun s => .ok true s) e n (k + 1) acc st2
      | _, _ => .stuck) = _
    rw [e2]
    show ((e ⟨env.set j (.val (.int (0 + (k : Int)))), T, ro⟩).bind fun x st3 => if acc.length < sizeLine then loopC (.rng 0 m) [j] (.name j) (fun s => .ok true s) e n (k + 1) (acc ++ [x]) st3 else .stuck) = _
    rw [hx k (by omega)]
    show (if acc.length < sizeLine then loopC (.rng 0 m) [j] (.name j) (fun s => .ok true s) e n (k + 1) (acc ++ [f k]) _ else .stuck) = _
    rw [if_pos (by omega), ih, List.append_assoc]
    congr 2
    rw [List.range_succ_eq_map, List.map_cons, List.map_map]
    show [f k] ++ _ = f (k + 0) :: _
    rw [Nat.add_zero]
    show f k :: _ = f k :: _
    congr 1
    apply List.map_congr_left
    intro a _
    show f (k + 1 + a) = f (k + (a + 1))
    rw [Nat.add_right_comm, Nat.add_assoc]
def bidN (q z : Nat) : List Cl := (List.range (z - z / 2)).flatMap fun l => (List.range (q + 1)).map fun s => .bid (1 + l) s
def bBids : Ss :=
  (.cons (.asg (.name 2) false (.bin .sub (.var 1) (.bin .fdiv (.var 1) (.cst (.int 2)))))
  (.cons (.ret (.comp2 (.tup (.cons (.cst (.str "bid")) (.cons (.var 3) (.cons (.var 4) .nil)))) (.rng2 (.cst (.int 1)) (.bin .add (.var 2) (.cst (.int 1)))) (.name 3) (.rng1 (.bin .add (.var 0) (.cst (.int 1)))) (.name 4) [3, 4] [4]))
  .nil))
theorem bidN_len (q z : Nat) (hq : q ≤ 4) (hz : z ≤ 14) : (bidN q z).length ≤ 35 := by
  have e : (bidN q z).length = (z - z / 2) * (q + 1) := by
    unfold bidN
    rw [List.length_flatMap]
    have : ∀ n m : Nat, ((List.range n).map fun _ => m).sum = n * m := fun n m => by
      induction n with
      | zero => simp
      | succ n ih => rw [List.range_succ, List.map_append, List.sum_append, ih, Nat.succ_mul]; simp
    simp only [List.length_map, List.length_range]
    exact this _ _
  rw [e]
  exact Nat.le_trans (Nat.mul_le_mul (show z - z / 2 ≤ 7 by omega) (show q + 1 ≤ 5 by omega)) (by omega)
theorem bids_loop (mi : Sta → Res Itv) (g : Sta → Res Dt) (q z : Nat) (T : List Ob) (ro : Bool) (e0 e1 e2 : Sl)
    (hm : ∀ l : Nat, mi ⟨[e0, e1, e2, .val (.int (1 + (l : Int))), .none], T, ro⟩ = .ok (.rng 0 (q + 1)) ⟨[e0, e1, e2, .val (.int (1 + (l : Int))), .none], T, ro⟩)
    (hg : ∀ l s : Nat, g ⟨[e0, e1, e2, .val (.int (1 + (l : Int))), .val (.int (0 + (s : Int)))], T, ro⟩ = .ok (Cl.bid (1 + l) s).dt ⟨[e0, e1, e2, .val (.int (1 + (l : Int))), .val (.int (0 + (s : Int)))], T, ro⟩) : ∀ (n k : Nat) (acc : List Cl) (s3 s4 : Sl), k + n = z → acc.length + n * (q + 1) ≤ 100 →
    ∃ t3 t4, loopC2 (.rng 1 z) [3, 4] (.name 3) mi [4] (.name 4) g n k (clsD acc) ⟨[e0, e1, e2, s3, s4], T, ro⟩ =
      .ok (clsD (acc ++ (List.range n).flatMap fun l => (List.range (q + 1)).map fun s => .bid (1 + (k + l)) s)) ⟨[e0, e1, e2, t3, t4], T, ro⟩
  | 0, k, acc, s3, s4, h, _ => by
    refine ⟨s3, s4, ?_⟩
    rw [loopC2_eq]
    have e0 : Itv.at (.rng 1 z) ⟨[e0, e1, e2, s3, s4], T, ro⟩ k = some none := by
      show some (if k < z then some (Dt.int (1 + k)) else none) = _
      rw [if_neg (by omega)]
    rw [e0]
    simp
  | n + 1, k, acc, s3, s4, h, hl => by
    have zl : sizeLine = 16777216 := rfl
    have hl : acc.length + (n * (q + 1) + (q + 1)) ≤ 100 := by rw [← Nat.succ_mul]; exact hl
    have e1' : Itv.at (.rng 1 z) ⟨[e0, e1, e2, s3, s4], T, ro⟩ k = some (some (.int (1 + (k : Int)))) := by
      show some (if k < z then some (Dt.int (1 + k)) else none) = _
      rw [if_pos (by omega)]
    obtain ⟨t4, hin⟩ := in_rng (e := g) (j := 4) (env := [e0, e1, e2, .val (.int (1 + (k : Int))), .none]) (T := T) (ro := ro) (fun s => (Cl.bid (1 + k) s).dt) (q + 1) (fun s hs => hg k s) (q + 1) 0 (clsD acc) .none (by omega) (by rw [clsD_len, zl]; omega)
    have hin2 : clsD acc ++ ((List.range (q + 1)).map fun i => (Cl.bid (1 + k) (0 + i)).dt) = clsD (acc ++ (List.range (q + 1)).map fun s => .bid (1 + k) s) := by
      rw [← cls_app]
      congr 1
      unfold clsD
      rw [List.map_map]
      apply List.map_congr_left
      intro a _
      rw [Nat.zero_add]; rfl
    have ll : (acc ++ (List.range (q + 1)).map fun s => Cl.bid (1 + k) s).length + n * (q + 1) ≤ 100 := by
      rw [List.length_append, List.length_map, List.length_range]; omega
    obtain ⟨t3, t5, ih⟩ := bids_loop mi g q z T ro e0 e1 e2 hm hg n (k + 1) (acc ++ (List.range (q + 1)).map fun s => .bid (1 + k) s) (.val (.int (1 + (k : Int)))) t4 (by omega) ll
    refine ⟨t3, t5, ?_⟩
    rw [hin2] at hin
    simp only [stS, st0] at hin
    rw [loopC2_turn (st1 := ⟨[e0, e1, e2, .val (.int (1 + (k : Int))), .none], T, ro⟩) (st3 := ⟨[e0, e1, e2, .val (.int (1 + (k : Int))), t4], T, ro⟩) (w := .rng 0 (q + 1)) e1' rfl (hm k) rfl hin, ih]
    congr 2
    rw [List.append_assoc, List.range_succ_eq_map (n := n), List.flatMap_cons, List.flatMap_map]
    congr 1
    congr 1
    congr 1
    funext l
    apply List.map_congr_left
    intro a _
    show Cl.bid (1 + (k + 1 + l)) a = Cl.bid (1 + (k + (l + 1))) a
    congr 1
    omega
theorem bids_comp (p : Prg) (k q z : Nat) (hq : q ≤ 4) (hz : z ≤ 14) (ro : Bool) (T : List Ob) : evE (Gam p (k - 1)) (.comp2 (.tup (.cons (.cst (.str "bid")) (.cons (.var 3) (.cons (.var 4) .nil)))) (.rng2 (.cst (.int 1)) (.bin .add (.var 2) (.cst (.int 1)))) (.name 3) (.rng1 (.bin .add (.var 0) (.cst (.int 1)))) (.name 4) [3, 4] [4]) ⟨[.val (.int q), .val (.int z), .val (.int ((z - z / 2 : Nat) : Int)), .none, .none], T, ro⟩ = .ok (.new (clsD (bidN q z))) ⟨[.val (.int q), .val (.int z), .val (.int ((z - z / 2 : Nat) : Int)), .none, .none], T, ro⟩ := by
  have bl := bidN_len q z hq hz
  have hn : (z - z / 2) * (q + 1) ≤ 100 := Nat.le_trans (Nat.mul_le_mul (show z - z / 2 ≤ 7 by omega) (show q + 1 ≤ 5 by omega)) (by omega)
  obtain ⟨t3, t4, hlp⟩ := bids_loop (fun s => (evI (Gam p (k - 1)) (.rng1 (.bin .add (.var 0) (.cst (.int 1)))) s).noexc) (fun s => (evE (Gam p (k - 1)) (.tup (.cons (.cst (.str "bid")) (.cons (.var 3) (.cons (.var 4) .nil)))) s).dt.noexc) q (z - z / 2) T ro (.val (.int q)) (.val (.int z)) (.val (.int ((z - z / 2 : Nat) : Int)))
    (fun l => by
      have z := rng1_of (Γ := Gam p (k - 1)) (a := .bin .add (.var 0) (.cst (.int 1))) (st := ⟨[.val (.int q), .val (.int z), .val (.int ((z - z / 2 : Nat) : Int)), .val (.int (1 + (l : Int))), .none], T, ro⟩) (j := (q : Int) + 1) rfl (smallR_in _ _ (by omega) (by omega) (by omega) (by omega))
      show (evI _ _ _).noexc = _
      rw [z]
      rfl)
    (fun l s => by
      have z3 : W (evE (Gam p (k - 1)) (.tup (.cons (.cst (.str "bid")) (.cons (.var 3) (.cons (.var 4) .nil)))) ⟨[.val (.int q), .val (.int z), .val (.int ((z - z / 2 : Nat) : Int)), .val (.int (1 + (l : Int))), .val (.int (0 + (s : Int)))], T, ro⟩) (fun h st => h = .val (Cl.bid (1 + l) s).dt ∧ st = ⟨[.val (.int q), .val (.int z), .val (.int ((z - z / 2 : Nat) : Int)), .val (.int (1 + (l : Int))), .val (.int (0 + (s : Int)))], T, ro⟩) (fun _ _ => False) := by
        have zl : sizeLine = 16777216 := rfl
        simp -implicitDefEqProofs -dsimp (disch := omega) only [List.map, List.length, List.replicate, List.cons_append, List.nil_append, ↓W_dt, ↓W_fld, ↓W_meth, ↓W_make, ↓MkW_n, ↓W_popl, ↓W_setf, ↓W_augx, ↓W_asgM, ↓Gam_ncl, ↓EnW_l, ↓EnW_s, ↓EnW_n, ↓EnW_f, ↓EnW_b, ↓LG_rng, ↓LG_seq, ↓LG_enum, ↓LG_zip, ↓LG_str, ↓LG_seqR, ↓LG_enumR, ↓I3W_f, ↓I3W_b, ↓InW_s, ↓FdW_v, ↓FdW_o, ↓FdW_d, ↓InB_s, ↓D_fld, ↓D_meth, ↓D_setf, ↓SO_v, ↓SO_n, ↓SO_nf, ↓SO_d, ↓sq_f, ↓live_f, ↓live_b, ↓D_lenF, ↓D_ixF, ↓D_appF, ↓D_setF, ↓D_poplF, ↓D_lofF, ↓tp0, ↓tpS, ↓bh_f, ↓CG_rng, ↓CG_seq, ↓CG_enum, ↓CG_zip, ↓CG_str, ↓CG_seqR, ↓CG_enumR, ↓W_var, ↓W_cst, ↓W_glob, ↓W_bin, ↓W_cmp, ↓W_ix, ↓W_un, ↓W_blt, ↓W_blt2, ↓W_isi, ↓W_bits, ↓W_idx, ↓W_find, ↓W_pop, ↓W_dnew, ↓W_dix, ↓W_din, ↓W_sset, ↓D_sset, ↓W_lrg1, ↓W_lrg2, ↓W_dput, ↓StW_s, ↓ViW_i, ↓VaW_v, ↓SlW_d, ↓bh_nd, ↓OdW_s, ↓LnW_o, ↓LnW_d, ↓D_pop, ↓D_dixI, ↓D_dixS, ↓D_dinI, ↓D_dinS, ↓D_dputI, ↓D_dputS, ↓D_find, ↓D_lrg, ↓W_enum, ↓W_zip, ↓W_istr, ↓lstP_l, ↓lstP_s, ↓lstP_n, ↓lstQ_l, ↓W_revl, ↓W_revs, ↓W_sl, ↓W_bind, ↓W_partT, ↓W_partF, ↓PaW_i, ↓D_list, ↓D_tuple, ↓D_sum, ↓D_sorted, ↓D_maxl, ↓D_minl, ↓D_str, ↓D_bits, ↓D_revS, ↓D_revL, ↓D_revN, ↓seq_t, ↓seq_l, ↓seq_s, ↓seq_n, ↓seq_b, ↓seq_o, ↓ints_n, ↓ints_l, ↓inta_n, ↓inta_l, ↓inta_t, ↓W_exi, ↓W_chain, ↓W_not, ↓W_and, ↓W_or, ↓W_ife, ↓W_tup, ↓W_lst, ↓W_call, ↓W_frz, ↓W_mkbox, ↓W_app, ↓W_enil, ↓W_econs, ↓W_rng1, ↓W_rng2, ↓W_seq, ↓W_asg, ↓W_asgO, ↓W_asgT, ↓W_aug, ↓W_setix, ↓W_expr, ↓W_ret, ↓W_retN, ↓W_pass, ↓W_brk, ↓W_cont, ↓W_raise, ↓W_if, ↓W_for, ↓W_nil, ↓W_cons, ↓W_try, ↓W_ok, ↓W_exc, ↓WC_ok, ↓WC_exc, ↓WK_ok, ↓WK_exc, ↓TW_b, ↓DW_v, ↓DW_n, ↓IT_t, ↓IT_f, ↓IT_dt, ↓IT_df, IT_d, ↓IT_e1, ↓IT_e2, ↓IT_e3, ↓IT_e4, ↓IT_n, ↓IT_a, ↓SlW_v, ↓SlW_o, ↓OW_s, ↓FW_nx, ↓FW_rt, ↓FW_bk, ↓FW_ct, ↓RW_v, ↓RW_n, ↓RW_o, ↓bh_v, ↓bh_n, ↓bh_o, ↓Gam_glob, ↓D_add, ↓D_sub, ↓D_mul, ↓D_fdiv, ↓D_mod, ↓D_band, ↓D_bor, ↓D_bxor, ↓D_shl, ↓D_shr, ↓D_lt, ↓D_le, ↓D_gt, ↓D_ge, ↓D_eqi, ↓D_nei, ↓D_eqb, ↓D_eqll, ↓D_nell, ↓D_eqnn, ↓D_nenn, ↓D_eqnl, ↓D_nenl, ↓D_eqln, ↓D_neln, ↓D_eqtt, ↓D_nett, ↓D_ill, ↓D_itt, ↓D_neb, ↓D_isN, ↓D_inN, ↓D_isi1, ↓D_ini1, ↓D_ist1, ↓D_int1, ↓D_isl1, ↓D_inl1, ↓D_isn1, ↓D_inn1, ↓D_isb1, ↓D_inb1, ↓D_neg, ↓D_abs, ↓D_int, ↓D_intb, ↓D_lenT, ↓D_lenL, ↓D_lenS, ↓D_lenN, ↓D_lenB, ↓D_lenO, ↓D_max, ↓D_min, ↓D_ixT, ↓D_ixL, ↓D_ixS, ↓D_ixN, ↓D_ixB, ↓D_ixO, ↓D_setB, ↓D_setO, ↓D_appO, ↓D_lof, ↓D_catNN, ↓D_catNL, ↓D_catLN, ↓D_catLL, ↓D_ii, ↓D_ib, ↓D_bi, ↓D_bb, ↓BW_s, ↓OnW_s, ↓OnB_s, ↓VW_rv, ↓VW_rn, ↓VW_nx, ↓RV_rv, ↓at0, ↓at1, ↓at2, ↓at3, ↓Au_add, ↓Au_sub, ↓Au_bor, ↓Au_mul, ↓sT0, ↓sTS, ↓I1W_i, ↓I2W_i, ↓I3W_l, ↓I3W_s, ↓I3W_t, ↓I3W_n, ↓stepQ_nx, ↓stepQ_ct, ↓stepQ_bk, ↓stepQ_rt, ↓sE, ↓eg0, ↓egS, ↓st0, ↓stS, ↓true_and, ↓and_true, ↓eq_self, ↓isF_v, ↓isF_n, ↓decide_true, ↓decide_false, ↓Bool.not_true, ↓Bool.not_false, List.set_cons_zero, List.set_cons_succ]
        refine ⟨by omega, ?_⟩
        show Hd.val (.tup [.str "bid", .int (1 + (l : Int)), .int (0 + (s : Int))]) = Hd.val (.tup [.str "bid", .int ((1 + l : Nat) : Int), .int (s : Int)])
        rw [Int.zero_add, Int.natCast_add]
        rfl
      show (evE _ _ _).dt.noexc = _
      rw [W_eq z3]
      cases (Cl.bid (1 + l) s).dt <;> rfl)
    (z - z / 2) 0 [] .none .none (by omega) (by show 0 + _ ≤ _; omega)
  have e3 : evI (Gam p (k - 1)) (.rng2 (.cst (.int 1)) (.bin .add (.var 2) (.cst (.int 1)))) ⟨[.val (.int q), .val (.int z), .val (.int ((z - z / 2 : Nat) : Int)), .none, .none], T, ro⟩ = .ok (.rng 1 (z - z / 2)) ⟨[.val (.int q), .val (.int z), .val (.int ((z - z / 2 : Nat) : Int)), .none, .none], T, ro⟩ := by
    have zz := rng2_of (Γ := Gam p (k - 1)) (a := .cst (.int 1)) (b := .bin .add (.var 2) (.cst (.int 1))) (st := ⟨[.val (.int q), .val (.int z), .val (.int ((z - z / 2 : Nat) : Int)), .none, .none], T, ro⟩) (i := 1) (j := ((z - z / 2 : Nat) : Int) + 1) rfl rfl (smallR_in _ _ (by omega) (by omega) (by omega) (by omega))
    have ht : (((z - z / 2 : Nat) : Int) + 1 - 1).toNat = z - z / 2 := by omega
    rw [zz, ht]
  have eb : bidN q z = [] ++ (List.range (z - z / 2)).flatMap fun l => (List.range (q + 1)).map fun s => Cl.bid (1 + (0 + l)) s := by
    unfold bidN
    simp only [List.nil_append, Nat.zero_add]
  rw [eb, comp2_run e3 rfl rfl hlp]
  rfl
theorem bids_run {p : Prg} {f : Nat} (hf : p.fn f = ⟨5, bBids⟩) (ha : p.ar f = 2) {k : Nat} (hk : 0 < k) (q z : Nat) (hq : q ≤ 4) (hz : z ≤ 14) (ro : Bool) (T : List Ob) :
    run p k f ro [.int q, .int z] T = .ok (.new (clsD (bidN q z))) T := by
  refine WC_eq (WC_run (by rw [ha]; rfl) hf hk ?_)
  have d2 : (z : Int).fdiv 2 = ((z / 2 : Nat) : Int) := by rw [Int.fdiv_eq_ediv_of_nonneg _ (by omega)]; rfl
  have sb : (z : Int) - ((z / 2 : Nat) : Int) = ((z - z / 2 : Nat) : Int) := by omega
  simp -implicitDefEqProofs -dsimp (disch := omega) only [bBids, List.map, List.length, List.replicate, List.cons_append, List.nil_append, ↓W_dt, ↓W_fld, ↓W_meth, ↓W_make, ↓MkW_n, ↓W_popl, ↓W_setf, ↓W_augx, ↓W_asgM, ↓Gam_ncl, ↓EnW_l, ↓EnW_s, ↓EnW_n, ↓EnW_f, ↓EnW_b, ↓LG_rng, ↓LG_seq, ↓LG_enum, ↓LG_zip, ↓LG_str, ↓LG_seqR, ↓LG_enumR, ↓I3W_f, ↓I3W_b, ↓InW_s, ↓FdW_v, ↓FdW_o, ↓FdW_d, ↓InB_s, ↓D_fld, ↓D_meth, ↓D_setf, ↓SO_v, ↓SO_n, ↓SO_nf, ↓SO_d, ↓sq_f, ↓live_f, ↓live_b, ↓D_lenF, ↓D_ixF, ↓D_appF, ↓D_setF, ↓D_poplF, ↓D_lofF, ↓tp0, ↓tpS, ↓bh_f, ↓CG_rng, ↓CG_seq, ↓CG_enum, ↓CG_zip, ↓CG_str, ↓CG_seqR, ↓CG_enumR, ↓W_var, ↓W_cst, ↓W_glob, ↓W_bin, ↓W_cmp, ↓W_ix, ↓W_un, ↓W_blt, ↓W_blt2, ↓W_isi, ↓W_bits, ↓W_idx, ↓W_find, ↓W_pop, ↓W_dnew, ↓W_dix, ↓W_din, ↓W_sset, ↓D_sset, ↓W_lrg1, ↓W_lrg2, ↓W_dput, ↓StW_s, ↓ViW_i, ↓VaW_v, ↓SlW_d, ↓bh_nd, ↓OdW_s, ↓LnW_o, ↓LnW_d, ↓D_pop, ↓D_dixI, ↓D_dixS, ↓D_dinI, ↓D_dinS, ↓D_dputI, ↓D_dputS, ↓D_find, ↓D_lrg, ↓W_enum, ↓W_zip, ↓W_istr, ↓lstP_l, ↓lstP_s, ↓lstP_n, ↓lstQ_l, ↓W_revl, ↓W_revs, ↓W_sl, ↓W_bind, ↓W_partT, ↓W_partF, ↓PaW_i, ↓D_list, ↓D_tuple, ↓D_sum, ↓D_sorted, ↓D_maxl, ↓D_minl, ↓D_str, ↓D_bits, ↓D_revS, ↓D_revL, ↓D_revN, ↓seq_t, ↓seq_l, ↓seq_s, ↓seq_n, ↓seq_b, ↓seq_o, ↓ints_n, ↓ints_l, ↓inta_n, ↓inta_l, ↓inta_t, ↓W_exi, ↓W_chain, ↓W_not, ↓W_and, ↓W_or, ↓W_ife, ↓W_tup, ↓W_lst, ↓W_call, ↓W_frz, ↓W_mkbox, ↓W_app, ↓W_enil, ↓W_econs, ↓W_rng1, ↓W_rng2, ↓W_seq, ↓W_asg, ↓W_asgO, ↓W_asgT, ↓W_aug, ↓W_setix, ↓W_expr, ↓W_ret, ↓W_retN, ↓W_pass, ↓W_brk, ↓W_cont, ↓W_raise, ↓W_if, ↓W_for, ↓W_nil, ↓W_cons, ↓W_try, ↓W_ok, ↓W_exc, ↓WC_ok, ↓WC_exc, ↓WK_ok, ↓WK_exc, ↓TW_b, ↓DW_v, ↓DW_n, ↓IT_t, ↓IT_f, ↓IT_dt, ↓IT_df, IT_d, ↓IT_e1, ↓IT_e2, ↓IT_e3, ↓IT_e4, ↓IT_n, ↓IT_a, ↓SlW_v, ↓SlW_o, ↓OW_s, ↓FW_nx, ↓FW_rt, ↓FW_bk, ↓FW_ct, ↓RW_v, ↓RW_n, ↓RW_o, ↓bh_v, ↓bh_n, ↓bh_o, ↓Gam_glob, ↓D_add, ↓D_sub, ↓D_mul, ↓D_fdiv, ↓D_mod, ↓D_band, ↓D_bor, ↓D_bxor, ↓D_shl, ↓D_shr, ↓D_lt, ↓D_le, ↓D_gt, ↓D_ge, ↓D_eqi, ↓D_nei, ↓D_eqb, ↓D_eqll, ↓D_nell, ↓D_eqnn, ↓D_nenn, ↓D_eqnl, ↓D_nenl, ↓D_eqln, ↓D_neln, ↓D_eqtt, ↓D_nett, ↓D_ill, ↓D_itt, ↓D_neb, ↓D_isN, ↓D_inN, ↓D_isi1, ↓D_ini1, ↓D_ist1, ↓D_int1, ↓D_isl1, ↓D_inl1, ↓D_isn1, ↓D_inn1, ↓D_isb1, ↓D_inb1, ↓D_neg, ↓D_abs, ↓D_int, ↓D_intb, ↓D_lenT, ↓D_lenL, ↓D_lenS, ↓D_lenN, ↓D_lenB, ↓D_lenO, ↓D_max, ↓D_min, ↓D_ixT, ↓D_ixL, ↓D_ixS, ↓D_ixN, ↓D_ixB, ↓D_ixO, ↓D_setB, ↓D_setO, ↓D_appO, ↓D_lof, ↓D_catNN, ↓D_catNL, ↓D_catLN, ↓D_catLL, ↓D_ii, ↓D_ib, ↓D_bi, ↓D_bb, ↓BW_s, ↓OnW_s, ↓OnB_s, ↓VW_rv, ↓VW_rn, ↓VW_nx, ↓RV_rv, ↓at0, ↓at1, ↓at2, ↓at3, ↓Au_add, ↓Au_sub, ↓Au_bor, ↓Au_mul, ↓sT0, ↓sTS, ↓I1W_i, ↓I2W_i, ↓I3W_l, ↓I3W_s, ↓I3W_t, ↓I3W_n, ↓stepQ_nx, ↓stepQ_ct, ↓stepQ_bk, ↓stepQ_rt, ↓sE, ↓eg0, ↓egS, ↓st0, ↓stS, ↓true_and, ↓and_true, ↓eq_self, ↓isF_v, ↓isF_n, ↓decide_true, ↓decide_false, ↓Bool.not_true, ↓Bool.not_false, List.set_cons_zero, List.set_cons_succ, d2, sb]
  refine ⟨⟨by omega, by decide⟩, ?_⟩
  have e4 := bids_comp p k q z hq hz ro T
  rw [e4, W_ok]
  exact ⟨rfl, rfl, rfl⟩
end EV
namespace EV
open PySem PySem.Spec PyProof.Rows L2
/-! the methods of an auction -/
def bSide : Ss := (.cons (.ret (.bin .mod (.var 0) (.cst (.int 2)))) .nil)
def bAuI (fb : Nat) : Ss :=
  (.cons (.setf false (.var 0) "_bids" (.call fb (.cons (.var 1) (.cons (.var 2) .nil))))
  (.cons (.setf false (.var 0) "_dealer" (.var 3))
  (.cons (.setf true (.var 0) "_calls" (.lst .nil))
  .nil)))
def bAuP : Ss :=
  (.cons (.ret (.bin .mod (.bin .add (.fld (.var 0) "_dealer") (.var 1)) (.cst (.int 4))))
  .nil)
def bAuT : Ss :=
  (.cons (.ret (.meth (.var 0) "player_of" (.cons (.blt .len (.fld (.var 0) "_calls")) .nil)))
  .nil)
def bAuC : Ss :=
  (.cons (.ret (.blt .list (.fld (.var 0) "_calls")))
  .nil)
def bAuL (g : Nat) : Ss :=
  (.cons (.asg (.name 1) false (.comp (.var 2) (.enum (.fld (.var 0) "_calls")) (.tup [2, 3]) (.cmp .ne (.var 3) (.glob g)) [2, 3]))
  (.cons (.ret (.ife (.cmp .gt (.blt .len (.var 1)) (.cst (.int 0))) (.ix (.var 1) (.un .neg (.cst (.int 1)))) (.un .neg (.cst (.int 1)))))
  .nil))
def bAuK : Ss :=
  (.cons (.asg (.name 1) false (.comp (.var 2) (.enum (.fld (.var 0) "_calls")) (.tup [2, 3]) (.cmp .eq (.ix (.var 3) (.cst (.int 0))) (.cst (.str "bid"))) [2, 3]))
  (.cons (.ret (.ife (.cmp .gt (.blt .len (.var 1)) (.cst (.int 0))) (.ix (.var 1) (.un .neg (.cst (.int 1)))) (.un .neg (.cst (.int 1)))))
  .nil))
def bAuO : Ss :=
  (.cons (.asg (.name 1) false (.bin .sub (.bin .sub (.blt .len (.fld (.var 0) "_calls")) (.cst (.int 1))) (.meth (.var 0) "last" .nil)))
  (.cons (.ret (.or (.cmp .ge (.var 1) (.cst (.int 4))) (.and (.cmp .eq (.var 1) (.cst (.int 3))) (.cmp .ge (.meth (.var 0) "last" .nil) (.cst (.int 0))))))
  .nil))
def bAuG1 : Ss :=
  (.cons (.asg (.name 3) false (.meth (.var 0) "last_bid" .nil))
  (.cons (.asg (.name 4) false (.ife (.cmp .lt (.var 3) (.cst (.int 0))) (.cst (.int 0)) (.bin .add (.idx (.fld (.var 0) "_bids") (.ix (.fld (.var 0) "_calls") (.var 3))) (.cst (.int 1)))))
  (.cons (.ret (.bin .add (.var 2) (.sl (.fld (.var 0) "_bids") true (.var 4) false (.cst .non))))
  .nil)))
def bAuG2 (g : Nat) : Ss :=
  (.cons (.expr (.app (.var 2) (.glob g)))
  .nil)
def bAuG3 (gd gr : Nat) : Ss :=
  (.cons (.iff (.cmp .eq (.ix (.fld (.var 0) "_calls") (.var 1)) (.glob gd)) (bAuG2 gr) .nil)
  .nil)
def bAuG4 (gd gr : Nat) : Ss :=
  (.cons (.iff (.cmp .eq (.ix (.ix (.fld (.var 0) "_calls") (.var 1)) (.cst (.int 0))) (.cst (.str "bid"))) (bAuG2 gd) .nil)
  (bAuG3 gd gr))
def bAuG5 (fs gp gd gr : Nat) : Ss :=
  (.cons (.asg (.name 1) false (.meth (.var 0) "last" .nil))
  (.cons (.asg (.name 2) true (.lst (.cons (.glob gp) .nil)))
  (.cons (.iff (.and (.cmp .ge (.var 1) (.cst (.int 0))) (.cmp .ne (.call fs (.cons (.meth (.var 0) "player_of" (.cons (.var 1) .nil)) .nil)) (.call fs (.cons (.meth (.var 0) "turn" .nil) .nil)))) (bAuG4 gd gr) .nil)
  bAuG1)))
def bAuG6 : Ss :=
  (.cons (.ret (.lst .nil))
  .nil)
def bAuG (fs gp gd gr : Nat) : Ss :=
  (.cons (.iff (.meth (.var 0) "is_over" .nil) bAuG6 .nil)
  (bAuG5 fs gp gd gr))
def bAuA1 : Ss :=
  (.cons (.expr (.app (.fld (.var 0) "_calls") (.var 1)))
  .nil)
def bAuA2 (e : Nat) : Ss :=
  (.cons (.raise e)
  .nil)
def bAuA3 (e2 : Nat) : Ss :=
  (.cons (.iff (.cmp .notin (.var 1) (.meth (.var 0) "legal" .nil)) (bAuA2 e2) .nil)
  bAuA1)
def bAuA (e1 e2 : Nat) : Ss :=
  (.cons (.iff (.meth (.var 0) "is_over" .nil) (bAuA2 e1) .nil)
  (bAuA3 e2))
structure AuP (p : Prg) where
  gp : Nat
  gd : Nat
  gr : Nat
  e1 : Nat
  e2 : Nat
  fs : Nat
  fb : Nat
  fi : Nat
  fp : Nat
  ft : Nat
  fc : Nat
  fl : Nat
  fk : Nat
  fo : Nat
  fg : Nat
  fa : Nat
  hs : p.fn fs = ⟨1, bSide⟩
  hb : p.fn fb = ⟨5, bBids⟩
  hi : p.fn fi = ⟨4, bAuI fb⟩
  hp : p.fn fp = ⟨2, bAuP⟩
  ht : p.fn ft = ⟨1, bAuT⟩
  hc : p.fn fc = ⟨1, bAuC⟩
  hl : p.fn fl = ⟨4, bAuL gp⟩
  hk : p.fn fk = ⟨4, bAuK⟩
  ho : p.fn fo = ⟨2, bAuO⟩
  hg : p.fn fg = ⟨5, bAuG fs gp gd gr⟩
  ha : p.fn fa = ⟨2, bAuA e1 e2⟩
  as_ : p.ar fs = 1
  ab : p.ar fb = 2
  ai : p.ar fi = 4
  ap : p.ar fp = 2
  at_ : p.ar ft = 1
  ac : p.ar fc = 1
  al : p.ar fl = 1
  ak : p.ar fk = 1
  ao : p.ar fo = 1
  ag : p.ar fg = 1
  aa : p.ar fa = 2
  ncl : 0 < p.ncl
  mp : p.mth 0 "player_of" = some fp
  mt : p.mth 0 "turn" = some ft
  mc : p.mth 0 "calls" = some fc
  ml : p.mth 0 "last" = some fl
  mkb : p.mth 0 "last_bid" = some fk
  mo : p.mth 0 "is_over" = some fo
  mg : p.mth 0 "legal" = some fg
  ma : p.mth 0 "call" = some fa
  qp : p.glob gp = Cl.pass.dt
  qd : p.glob gd = Cl.dbl.dt
  qr : p.glob gr = Cl.rdb.dt
section
variable {p : Prg} (A : AuP p) {k : Nat} {T : List Ob} {n : Nat} {b : List Cl} {d : Nat} {cs : List Cl} (ro : Bool)
theorem side_run (hk : 0 < k) (x : Nat) : run p k A.fs ro [.int x] T = .ok (.val (.int (x % 2 : Nat))) T := by
  refine WC_eq (WC_run (by rw [A.as_]; rfl) A.hs hk ?_)
  have e : (x : Int).fmod 2 = ((x % 2 : Nat) : Int) := by rw [Int.fmod_eq_emod_of_nonneg _ (by omega)]; rfl
  simp -implicitDefEqProofs -dsimp (disch := omega) only [bSide, List.map, List.length, List.replicate, List.cons_append, List.nil_append, ↓W_dt, ↓W_fld, ↓W_meth, ↓W_make, ↓MkW_n, ↓W_popl, ↓W_setf, ↓W_augx, ↓W_asgM, ↓Gam_ncl, ↓EnW_l, ↓EnW_s, ↓EnW_n, ↓EnW_f, ↓EnW_b, ↓LG_rng, ↓LG_seq, ↓LG_enum, ↓LG_zip, ↓LG_str, ↓LG_seqR, ↓LG_enumR, ↓I3W_f, ↓I3W_b, ↓InW_s, ↓FdW_v, ↓FdW_o, ↓FdW_d, ↓InB_s, ↓D_fld, ↓D_meth, ↓D_setf, ↓SO_v, ↓SO_n, ↓SO_nf, ↓SO_d, ↓sq_f, ↓live_f, ↓live_b, ↓D_lenF, ↓D_ixF, ↓D_appF, ↓D_setF, ↓D_poplF, ↓D_lofF, ↓tp0, ↓tpS, ↓bh_f, ↓CG_rng, ↓CG_seq, ↓CG_enum, ↓CG_zip, ↓CG_str, ↓CG_seqR, ↓CG_enumR, ↓W_var, ↓W_cst, ↓W_glob, ↓W_bin, ↓W_cmp, ↓W_ix, ↓W_un, ↓W_blt, ↓W_blt2, ↓W_isi, ↓W_bits, ↓W_idx, ↓W_find, ↓W_pop, ↓W_dnew, ↓W_dix, ↓W_din, ↓W_sset, ↓D_sset, ↓W_lrg1, ↓W_lrg2, ↓W_dput, ↓StW_s, ↓ViW_i, ↓VaW_v, ↓SlW_d, ↓bh_nd, ↓OdW_s, ↓LnW_o, ↓LnW_d, ↓D_pop, ↓D_dixI, ↓D_dixS, ↓D_dinI, ↓D_dinS, ↓D_dputI, ↓D_dputS, ↓D_find, ↓D_lrg, ↓W_enum, ↓W_zip, ↓W_istr, ↓lstP_l, ↓lstP_s, ↓lstP_n, ↓lstQ_l, ↓W_revl, ↓W_revs, ↓W_sl, ↓W_bind, ↓W_partT, ↓W_partF, ↓PaW_i, ↓D_list, ↓D_tuple, ↓D_sum, ↓D_sorted, ↓D_maxl, ↓D_minl, ↓D_str, ↓D_bits, ↓D_revS, ↓D_revL, ↓D_revN, ↓seq_t, ↓seq_l, ↓seq_s, ↓seq_n, ↓seq_b, ↓seq_o, ↓ints_n, ↓ints_l, ↓inta_n, ↓inta_l, ↓inta_t, ↓W_exi, ↓W_chain, ↓W_not, ↓W_and, ↓W_or, ↓W_ife, ↓W_tup, ↓W_lst, ↓W_call, ↓W_frz, ↓W_mkbox, ↓W_app, ↓W_enil, ↓W_econs, ↓W_rng1, ↓W_rng2, ↓W_seq, ↓W_asg, ↓W_asgO, ↓W_asgT, ↓W_aug, ↓W_setix, ↓W_expr, ↓W_ret, ↓W_retN, ↓W_pass, ↓W_brk, ↓W_cont, ↓W_raise, ↓W_if, ↓W_for, ↓W_nil, ↓W_cons, ↓W_try, ↓W_ok, ↓W_exc, ↓WC_ok, ↓WC_exc, ↓WK_ok, ↓WK_exc, ↓TW_b, ↓DW_v, ↓DW_n, ↓IT_t, ↓IT_f, ↓IT_dt, ↓IT_df, IT_d, ↓IT_e1, ↓IT_e2, ↓IT_e3, ↓IT_e4, ↓IT_n, ↓IT_a, ↓SlW_v, ↓SlW_o, ↓OW_s, ↓FW_nx, ↓FW_rt, ↓FW_bk, ↓FW_ct, ↓RW_v, ↓RW_n, ↓RW_o, ↓bh_v, ↓bh_n, ↓bh_o, ↓Gam_glob, ↓D_add, ↓D_sub, ↓D_mul, ↓D_fdiv, ↓D_mod, ↓D_band, ↓D_bor, ↓D_bxor, ↓D_shl, ↓D_shr, ↓D_lt, ↓D_le, ↓D_gt, ↓D_ge, ↓D_eqi, ↓D_nei, ↓D_eqb, ↓D_eqll, ↓D_nell, ↓D_eqnn, ↓D_nenn, ↓D_eqnl, ↓D_nenl, ↓D_eqln, ↓D_neln, ↓D_eqtt, ↓D_nett, ↓D_ill, ↓D_itt, ↓D_neb, ↓D_isN, ↓D_inN, ↓D_isi1, ↓D_ini1, ↓D_ist1, ↓D_int1, ↓D_isl1, ↓D_inl1, ↓D_isn1, ↓D_inn1, ↓D_isb1, ↓D_inb1, ↓D_neg, ↓D_abs, ↓D_int, ↓D_intb, ↓D_lenT, ↓D_lenL, ↓D_lenS, ↓D_lenN, ↓D_lenB, ↓D_lenO, ↓D_max, ↓D_min, ↓D_ixT, ↓D_ixL, ↓D_ixS, ↓D_ixN, ↓D_ixB, ↓D_ixO, ↓D_setB, ↓D_setO, ↓D_appO, ↓D_lof, ↓D_catNN, ↓D_catNL, ↓D_catLN, ↓D_catLL, ↓D_ii, ↓D_ib, ↓D_bi, ↓D_bb, ↓BW_s, ↓OnW_s, ↓OnB_s, ↓VW_rv, ↓VW_rn, ↓VW_nx, ↓RV_rv, ↓at0, ↓at1, ↓at2, ↓at3, ↓Au_add, ↓Au_sub, ↓Au_bor, ↓Au_mul, ↓sT0, ↓sTS, ↓I1W_i, ↓I2W_i, ↓I3W_l, ↓I3W_s, ↓I3W_t, ↓I3W_n, ↓stepQ_nx, ↓stepQ_ct, ↓stepQ_bk, ↓stepQ_rt, ↓sE, ↓eg0, ↓egS, ↓st0, ↓stS, ↓true_and, ↓and_true, ↓eq_self, ↓isF_v, ↓isF_n, ↓decide_true, ↓decide_false, ↓Bool.not_true, ↓Bool.not_false, List.set_cons_zero, List.set_cons_succ, e]
  decide
theorem au_play (hk : 0 < k) (hT : T[n]? = some (.ins 0 (auF b d cs))) (x : Nat) : run p k A.fp ro [.box n, .int x] T = .ok (.val (.int ((d + x) % 4 : Nat))) T := by
  refine WC_eq (WC_run (by rw [A.ap]; rfl) A.hp hk ?_)
  have e : ((d : Int) + (x : Int)).fmod 4 = (((d + x) % 4 : Nat) : Int) := by rw [Int.fmod_eq_emod_of_nonneg _ (by omega)]; omega
  have hn := A.ncl
  simp -implicitDefEqProofs -dsimp (disch := omega) only [bAuP, List.map, List.length, List.replicate, List.cons_append, List.nil_append, ↓W_dt, ↓W_fld, ↓W_meth, ↓W_make, ↓MkW_n, ↓W_popl, ↓W_setf, ↓W_augx, ↓W_asgM, ↓Gam_ncl, ↓EnW_l, ↓EnW_s, ↓EnW_n, ↓EnW_f, ↓EnW_b, ↓LG_rng, ↓LG_seq, ↓LG_enum, ↓LG_zip, ↓LG_str, ↓LG_seqR, ↓LG_enumR, ↓I3W_f, ↓I3W_b, ↓InW_s, ↓FdW_v, ↓FdW_o, ↓FdW_d, ↓InB_s, ↓D_fld, ↓D_meth, ↓D_setf, ↓SO_v, ↓SO_n, ↓SO_nf, ↓SO_d, ↓sq_f, ↓live_f, ↓live_b, ↓D_lenF, ↓D_ixF, ↓D_appF, ↓D_setF, ↓D_poplF, ↓D_lofF, ↓tp0, ↓tpS, ↓bh_f, ↓CG_rng, ↓CG_seq, ↓CG_enum, ↓CG_zip, ↓CG_str, ↓CG_seqR, ↓CG_enumR, ↓W_var, ↓W_cst, ↓W_glob, ↓W_bin, ↓W_cmp, ↓W_ix, ↓W_un, ↓W_blt, ↓W_blt2, ↓W_isi, ↓W_bits, ↓W_idx, ↓W_find, ↓W_pop, ↓W_dnew, ↓W_dix, ↓W_din, ↓W_sset, ↓D_sset, ↓W_lrg1, ↓W_lrg2, ↓W_dput, ↓StW_s, ↓ViW_i, ↓VaW_v, ↓SlW_d, ↓bh_nd, ↓OdW_s, ↓LnW_o, ↓LnW_d, ↓D_pop, ↓D_dixI, ↓D_dixS, ↓D_dinI, ↓D_dinS, ↓D_dputI, ↓D_dputS, ↓D_find, ↓D_lrg, ↓W_enum, ↓W_zip, ↓W_istr, ↓lstP_l, ↓lstP_s, ↓lstP_n, ↓lstQ_l, ↓W_revl, ↓W_revs, ↓W_sl, ↓W_bind, ↓W_partT, ↓W_partF, ↓PaW_i, ↓D_list, ↓D_tuple, ↓D_sum, ↓D_sorted, ↓D_maxl, ↓D_minl, ↓D_str, ↓D_bits, ↓D_revS, ↓D_revL, ↓D_revN, ↓seq_t, ↓seq_l, ↓seq_s, ↓seq_n, ↓seq_b, ↓seq_o, ↓ints_n, ↓ints_l, ↓inta_n, ↓inta_l, ↓inta_t, ↓W_exi, ↓W_chain, ↓W_not, ↓W_and, ↓W_or, ↓W_ife, ↓W_tup, ↓W_lst, ↓W_call, ↓W_frz, ↓W_mkbox, ↓W_app, ↓W_enil, ↓W_econs, ↓W_rng1, ↓W_rng2, ↓W_seq, ↓W_asg, ↓W_asgO, ↓W_asgT, ↓W_aug, ↓W_setix, ↓W_expr, ↓W_ret, ↓W_retN, ↓W_pass, ↓W_brk, ↓W_cont, ↓W_raise, ↓W_if, ↓W_for, ↓W_nil, ↓W_cons, ↓W_try, ↓W_ok, ↓W_exc, ↓WC_ok, ↓WC_exc, ↓WK_ok, ↓WK_exc, ↓TW_b, ↓DW_v, ↓DW_n, ↓IT_t, ↓IT_f, ↓IT_dt, ↓IT_df, IT_d, ↓IT_e1, ↓IT_e2, ↓IT_e3, ↓IT_e4, ↓IT_n, ↓IT_a, ↓SlW_v, ↓SlW_o, ↓OW_s, ↓FW_nx, ↓FW_rt, ↓FW_bk, ↓FW_ct, ↓RW_v, ↓RW_n, ↓RW_o, ↓bh_v, ↓bh_n, ↓bh_o, ↓Gam_glob, ↓D_add, ↓D_sub, ↓D_mul, ↓D_fdiv, ↓D_mod, ↓D_band, ↓D_bor, ↓D_bxor, ↓D_shl, ↓D_shr, ↓D_lt, ↓D_le, ↓D_gt, ↓D_ge, ↓D_eqi, ↓D_nei, ↓D_eqb, ↓D_eqll, ↓D_nell, ↓D_eqnn, ↓D_nenn, ↓D_eqnl, ↓D_nenl, ↓D_eqln, ↓D_neln, ↓D_eqtt, ↓D_nett, ↓D_ill, ↓D_itt, ↓D_neb, ↓D_isN, ↓D_inN, ↓D_isi1, ↓D_ini1, ↓D_ist1, ↓D_int1, ↓D_isl1, ↓D_inl1, ↓D_isn1, ↓D_inn1, ↓D_isb1, ↓D_inb1, ↓D_neg, ↓D_abs, ↓D_int, ↓D_intb, ↓D_lenT, ↓D_lenL, ↓D_lenS, ↓D_lenN, ↓D_lenB, ↓D_lenO, ↓D_max, ↓D_min, ↓D_ixT, ↓D_ixL, ↓D_ixS, ↓D_ixN, ↓D_ixB, ↓D_ixO, ↓D_setB, ↓D_setO, ↓D_appO, ↓D_lof, ↓D_catNN, ↓D_catNL, ↓D_catLN, ↓D_catLL, ↓D_ii, ↓D_ib, ↓D_bi, ↓D_bb, ↓BW_s, ↓OnW_s, ↓OnB_s, ↓VW_rv, ↓VW_rn, ↓VW_nx, ↓RV_rv, ↓at0, ↓at1, ↓at2, ↓at3, ↓Au_add, ↓Au_sub, ↓Au_bor, ↓Au_mul, ↓sT0, ↓sTS, ↓I1W_i, ↓I2W_i, ↓I3W_l, ↓I3W_s, ↓I3W_t, ↓I3W_n, ↓stepQ_nx, ↓stepQ_ct, ↓stepQ_bk, ↓stepQ_rt, ↓sE, ↓eg0, ↓egS, ↓st0, ↓stS, ↓true_and, ↓and_true, ↓eq_self, ↓isF_v, ↓isF_n, ↓decide_true, ↓decide_false, ↓Bool.not_true, ↓Bool.not_false, List.set_cons_zero, List.set_cons_succ, hT, au_d, e]
  exact ⟨hn, by decide⟩
theorem au_turn (hk : 1 < k) (hT : T[n]? = some (.ins 0 (auF b d cs))) : run p k A.ft ro [.box n] T = .ok (.val (.int ((d + cs.length) % 4 : Nat))) T := by
  refine WC_eq (WC_run (by rw [A.at_]; rfl) A.ht (by omega) ?_)
  have hn := A.ncl
  have z := au_play (k := k - 1) A ro (by omega) hT cs.length
  have lc := clsD_len cs
  simp -implicitDefEqProofs -dsimp (disch := omega) only [bAuT, List.map, List.length, List.replicate, List.cons_append, List.nil_append, ↓W_dt, ↓W_fld, ↓W_meth, ↓W_make, ↓MkW_n, ↓W_popl, ↓W_setf, ↓W_augx, ↓W_asgM, ↓Gam_ncl, ↓EnW_l, ↓EnW_s, ↓EnW_n, ↓EnW_f, ↓EnW_b, ↓LG_rng, ↓LG_seq, ↓LG_enum, ↓LG_zip, ↓LG_str, ↓LG_seqR, ↓LG_enumR, ↓I3W_f, ↓I3W_b, ↓InW_s, ↓FdW_v, ↓FdW_o, ↓FdW_d, ↓InB_s, ↓D_fld, ↓D_meth, ↓D_setf, ↓SO_v, ↓SO_n, ↓SO_nf, ↓SO_d, ↓sq_f, ↓live_f, ↓live_b, ↓D_lenF, ↓D_ixF, ↓D_appF, ↓D_setF, ↓D_poplF, ↓D_lofF, ↓tp0, ↓tpS, ↓bh_f, ↓CG_rng, ↓CG_seq, ↓CG_enum, ↓CG_zip, ↓CG_str, ↓CG_seqR, ↓CG_enumR, ↓W_var, ↓W_cst, ↓W_glob, ↓W_bin, ↓W_cmp, ↓W_ix, ↓W_un, ↓W_blt, ↓W_blt2, ↓W_isi, ↓W_bits, ↓W_idx, ↓W_find, ↓W_pop, ↓W_dnew, ↓W_dix, ↓W_din, ↓W_sset, ↓D_sset, ↓W_lrg1, ↓W_lrg2, ↓W_dput, ↓StW_s, ↓ViW_i, ↓VaW_v, ↓SlW_d, ↓bh_nd, ↓OdW_s, ↓LnW_o, ↓LnW_d, ↓D_pop, ↓D_dixI, ↓D_dixS, ↓D_dinI, ↓D_dinS, ↓D_dputI, ↓D_dputS, ↓D_find, ↓D_lrg, ↓W_enum, ↓W_zip, ↓W_istr, ↓lstP_l, ↓lstP_s, ↓lstP_n, ↓lstQ_l, ↓W_revl, ↓W_revs, ↓W_sl, ↓W_bind, ↓W_partT, ↓W_partF, ↓PaW_i, ↓D_list, ↓D_tuple, ↓D_sum, ↓D_sorted, ↓D_maxl, ↓D_minl, ↓D_str, ↓D_bits, ↓D_revS, ↓D_revL, ↓D_revN, ↓seq_t, ↓seq_l, ↓seq_s, ↓seq_n, ↓seq_b, ↓seq_o, ↓ints_n, ↓ints_l, ↓inta_n, ↓inta_l, ↓inta_t, ↓W_exi, ↓W_chain, ↓W_not, ↓W_and, ↓W_or, ↓W_ife, ↓W_tup, ↓W_lst, ↓W_call, ↓W_frz, ↓W_mkbox, ↓W_app, ↓W_enil, ↓W_econs, ↓W_rng1, ↓W_rng2, ↓W_seq, ↓W_asg, ↓W_asgO, ↓W_asgT, ↓W_aug, ↓W_setix, ↓W_expr, ↓W_ret, ↓W_retN, ↓W_pass, ↓W_brk, ↓W_cont, ↓W_raise, ↓W_if, ↓W_for, ↓W_nil, ↓W_cons, ↓W_try, ↓W_ok, ↓W_exc, ↓WC_ok, ↓WC_exc, ↓WK_ok, ↓WK_exc, ↓TW_b, ↓DW_v, ↓DW_n, ↓IT_t, ↓IT_f, ↓IT_dt, ↓IT_df, IT_d, ↓IT_e1, ↓IT_e2, ↓IT_e3, ↓IT_e4, ↓IT_n, ↓IT_a, ↓SlW_v, ↓SlW_o, ↓OW_s, ↓FW_nx, ↓FW_rt, ↓FW_bk, ↓FW_ct, ↓RW_v, ↓RW_n, ↓RW_o, ↓bh_v, ↓bh_n, ↓bh_o, ↓Gam_glob, ↓D_add, ↓D_sub, ↓D_mul, ↓D_fdiv, ↓D_mod, ↓D_band, ↓D_bor, ↓D_bxor, ↓D_shl, ↓D_shr, ↓D_lt, ↓D_le, ↓D_gt, ↓D_ge, ↓D_eqi, ↓D_nei, ↓D_eqb, ↓D_eqll, ↓D_nell, ↓D_eqnn, ↓D_nenn, ↓D_eqnl, ↓D_nenl, ↓D_eqln, ↓D_neln, ↓D_eqtt, ↓D_nett, ↓D_ill, ↓D_itt, ↓D_neb, ↓D_isN, ↓D_inN, ↓D_isi1, ↓D_ini1, ↓D_ist1, ↓D_int1, ↓D_isl1, ↓D_inl1, ↓D_isn1, ↓D_inn1, ↓D_isb1, ↓D_inb1, ↓D_neg, ↓D_abs, ↓D_int, ↓D_intb, ↓D_lenT, ↓D_lenL, ↓D_lenS, ↓D_lenN, ↓D_lenB, ↓D_lenO, ↓D_max, ↓D_min, ↓D_ixT, ↓D_ixL, ↓D_ixS, ↓D_ixN, ↓D_ixB, ↓D_ixO, ↓D_setB, ↓D_setO, ↓D_appO, ↓D_lof, ↓D_catNN, ↓D_catNL, ↓D_catLN, ↓D_catLL, ↓D_ii, ↓D_ib, ↓D_bi, ↓D_bb, ↓BW_s, ↓OnW_s, ↓OnB_s, ↓VW_rv, ↓VW_rn, ↓VW_nx, ↓RV_rv, ↓at0, ↓at1, ↓at2, ↓at3, ↓Au_add, ↓Au_sub, ↓Au_bor, ↓Au_mul, ↓sT0, ↓sTS, ↓I1W_i, ↓I2W_i, ↓I3W_l, ↓I3W_s, ↓I3W_t, ↓I3W_n, ↓stepQ_nx, ↓stepQ_ct, ↓stepQ_bk, ↓stepQ_rt, ↓sE, ↓eg0, ↓egS, ↓st0, ↓stS, ↓true_and, ↓and_true, ↓eq_self, ↓isF_v, ↓isF_n, ↓decide_true, ↓decide_false, ↓Bool.not_true, ↓Bool.not_false, List.set_cons_zero, List.set_cons_succ, hT, au_c, au_m1, A.mp, lc, z]
  exact ⟨hn, hn⟩
theorem au_calls (hk : 0 < k) (hT : T[n]? = some (.ins 0 (auF b d cs))) : run p k A.fc ro [.box n] T = .ok (.new (clsD cs)) T := by
  refine WC_eq (WC_run (by rw [A.ac]; rfl) A.hc hk ?_)
  have hn := A.ncl
  simp -implicitDefEqProofs -dsimp (disch := omega) only [bAuC, List.map, List.length, List.replicate, List.cons_append, List.nil_append, ↓W_dt, ↓W_fld, ↓W_meth, ↓W_make, ↓MkW_n, ↓W_popl, ↓W_setf, ↓W_augx, ↓W_asgM, ↓Gam_ncl, ↓EnW_l, ↓EnW_s, ↓EnW_n, ↓EnW_f, ↓EnW_b, ↓LG_rng, ↓LG_seq, ↓LG_enum, ↓LG_zip, ↓LG_str, ↓LG_seqR, ↓LG_enumR, ↓I3W_f, ↓I3W_b, ↓InW_s, ↓FdW_v, ↓FdW_o, ↓FdW_d, ↓InB_s, ↓D_fld, ↓D_meth, ↓D_setf, ↓SO_v, ↓SO_n, ↓SO_nf, ↓SO_d, ↓sq_f, ↓live_f, ↓live_b, ↓D_lenF, ↓D_ixF, ↓D_appF, ↓D_setF, ↓D_poplF, ↓D_lofF, ↓tp0, ↓tpS, ↓bh_f, ↓CG_rng, ↓CG_seq, ↓CG_enum, ↓CG_zip, ↓CG_str, ↓CG_seqR, ↓CG_enumR, ↓W_var, ↓W_cst, ↓W_glob, ↓W_bin, ↓W_cmp, ↓W_ix, ↓W_un, ↓W_blt, ↓W_blt2, ↓W_isi, ↓W_bits, ↓W_idx, ↓W_find, ↓W_pop, ↓W_dnew, ↓W_dix, ↓W_din, ↓W_sset, ↓D_sset, ↓W_lrg1, ↓W_lrg2, ↓W_dput, ↓StW_s, ↓ViW_i, ↓VaW_v, ↓SlW_d, ↓bh_nd, ↓OdW_s, ↓LnW_o, ↓LnW_d, ↓D_pop, ↓D_dixI, ↓D_dixS, ↓D_dinI, ↓D_dinS, ↓D_dputI, ↓D_dputS, ↓D_find, ↓D_lrg, ↓W_enum, ↓W_zip, ↓W_istr, ↓lstP_l, ↓lstP_s, ↓lstP_n, ↓lstQ_l, ↓W_revl, ↓W_revs, ↓W_sl, ↓W_bind, ↓W_partT, ↓W_partF, ↓PaW_i, ↓D_list, ↓D_tuple, ↓D_sum, ↓D_sorted, ↓D_maxl, ↓D_minl, ↓D_str, ↓D_bits, ↓D_revS, ↓D_revL, ↓D_revN, ↓seq_t, ↓seq_l, ↓seq_s, ↓seq_n, ↓seq_b, ↓seq_o, ↓ints_n, ↓ints_l, ↓inta_n, ↓inta_l, ↓inta_t, ↓W_exi, ↓W_chain, ↓W_not, ↓W_and, ↓W_or, ↓W_ife, ↓W_tup, ↓W_lst, ↓W_call, ↓W_frz, ↓W_mkbox, ↓W_app, ↓W_enil, ↓W_econs, ↓W_rng1, ↓W_rng2, ↓W_seq, ↓W_asg, ↓W_asgO, ↓W_asgT, ↓W_aug, ↓W_setix, ↓W_expr, ↓W_ret, ↓W_retN, ↓W_pass, ↓W_brk, ↓W_cont, ↓W_raise, ↓W_if, ↓W_for, ↓W_nil, ↓W_cons, ↓W_try, ↓W_ok, ↓W_exc, ↓WC_ok, ↓WC_exc, ↓WK_ok, ↓WK_exc, ↓TW_b, ↓DW_v, ↓DW_n, ↓IT_t, ↓IT_f, ↓IT_dt, ↓IT_df, IT_d, ↓IT_e1, ↓IT_e2, ↓IT_e3, ↓IT_e4, ↓IT_n, ↓IT_a, ↓SlW_v, ↓SlW_o, ↓OW_s, ↓FW_nx, ↓FW_rt, ↓FW_bk, ↓FW_ct, ↓RW_v, ↓RW_n, ↓RW_o, ↓bh_v, ↓bh_n, ↓bh_o, ↓Gam_glob, ↓D_add, ↓D_sub, ↓D_mul, ↓D_fdiv, ↓D_mod, ↓D_band, ↓D_bor, ↓D_bxor, ↓D_shl, ↓D_shr, ↓D_lt, ↓D_le, ↓D_gt, ↓D_ge, ↓D_eqi, ↓D_nei, ↓D_eqb, ↓D_eqll, ↓D_nell, ↓D_eqnn, ↓D_nenn, ↓D_eqnl, ↓D_nenl, ↓D_eqln, ↓D_neln, ↓D_eqtt, ↓D_nett, ↓D_ill, ↓D_itt, ↓D_neb, ↓D_isN, ↓D_inN, ↓D_isi1, ↓D_ini1, ↓D_ist1, ↓D_int1, ↓D_isl1, ↓D_inl1, ↓D_isn1, ↓D_inn1, ↓D_isb1, ↓D_inb1, ↓D_neg, ↓D_abs, ↓D_int, ↓D_intb, ↓D_lenT, ↓D_lenL, ↓D_lenS, ↓D_lenN, ↓D_lenB, ↓D_lenO, ↓D_max, ↓D_min, ↓D_ixT, ↓D_ixL, ↓D_ixS, ↓D_ixN, ↓D_ixB, ↓D_ixO, ↓D_setB, ↓D_setO, ↓D_appO, ↓D_lof, ↓D_catNN, ↓D_catNL, ↓D_catLN, ↓D_catLL, ↓D_ii, ↓D_ib, ↓D_bi, ↓D_bb, ↓BW_s, ↓OnW_s, ↓OnB_s, ↓VW_rv, ↓VW_rn, ↓VW_nx, ↓RV_rv, ↓at0, ↓at1, ↓at2, ↓at3, ↓Au_add, ↓Au_sub, ↓Au_bor, ↓Au_mul, ↓sT0, ↓sTS, ↓I1W_i, ↓I2W_i, ↓I3W_l, ↓I3W_s, ↓I3W_t, ↓I3W_n, ↓stepQ_nx, ↓stepQ_ct, ↓stepQ_bk, ↓stepQ_rt, ↓sE, ↓eg0, ↓egS, ↓st0, ↓stS, ↓true_and, ↓and_true, ↓eq_self, ↓isF_v, ↓isF_n, ↓decide_true, ↓decide_false, ↓Bool.not_true, ↓Bool.not_false, List.set_cons_zero, List.set_cons_succ, hT, au_c]
  exact hn
theorem au_last (hk : 0 < k) (hT : T[n]? = some (.ins 0 (auF b d cs))) (hl : cs.length ≤ 1000) : run p k A.fl ro [.box n] T = .ok (.val (.int (lastI Cl.np cs))) T := by
  have zl : sizeLine = 16777216 := rfl
  refine WC_eq (WC_run (by rw [A.al]; rfl) A.hl hk ?_)
  have hn := A.ncl
  have lc := clsD_len cs
  simp -implicitDefEqProofs -dsimp (disch := omega) only [bAuL, List.map, List.length, List.replicate, List.cons_append, List.nil_append, ↓W_dt, ↓W_fld, ↓W_meth, ↓W_make, ↓MkW_n, ↓W_popl, ↓W_setf, ↓W_augx, ↓W_asgM, ↓Gam_ncl, ↓EnW_l, ↓EnW_s, ↓EnW_n, ↓EnW_f, ↓EnW_b, ↓LG_rng, ↓LG_seq, ↓LG_enum, ↓LG_zip, ↓LG_str, ↓LG_seqR, ↓LG_enumR, ↓I3W_f, ↓I3W_b, ↓InW_s, ↓FdW_v, ↓FdW_o, ↓FdW_d, ↓InB_s, ↓D_fld, ↓D_meth, ↓D_setf, ↓SO_v, ↓SO_n, ↓SO_nf, ↓SO_d, ↓sq_f, ↓live_f, ↓live_b, ↓D_lenF, ↓D_ixF, ↓D_appF, ↓D_setF, ↓D_poplF, ↓D_lofF, ↓tp0, ↓tpS, ↓bh_f, ↓CG_rng, ↓CG_seq, ↓CG_enum, ↓CG_zip, ↓CG_str, ↓CG_seqR, ↓CG_enumR, ↓W_var, ↓W_cst, ↓W_glob, ↓W_bin, ↓W_cmp, ↓W_ix, ↓W_un, ↓W_blt, ↓W_blt2, ↓W_isi, ↓W_bits, ↓W_idx, ↓W_find, ↓W_pop, ↓W_dnew, ↓W_dix, ↓W_din, ↓W_sset, ↓D_sset, ↓W_lrg1, ↓W_lrg2, ↓W_dput, ↓StW_s, ↓ViW_i, ↓VaW_v, ↓SlW_d, ↓bh_nd, ↓OdW_s, ↓LnW_o, ↓LnW_d, ↓D_pop, ↓D_dixI, ↓D_dixS, ↓D_dinI, ↓D_dinS, ↓D_dputI, ↓D_dputS, ↓D_find, ↓D_lrg, ↓W_enum, ↓W_zip, ↓W_istr, ↓lstP_l, ↓lstP_s, ↓lstP_n, ↓lstQ_l, ↓W_revl, ↓W_revs, ↓W_sl, ↓W_bind, ↓W_partT, ↓W_partF, ↓PaW_i, ↓D_list, ↓D_tuple, ↓D_sum, ↓D_sorted, ↓D_maxl, ↓D_minl, ↓D_str, ↓D_bits, ↓D_revS, ↓D_revL, ↓D_revN, ↓seq_t, ↓seq_l, ↓seq_s, ↓seq_n, ↓seq_b, ↓seq_o, ↓ints_n, ↓ints_l, ↓inta_n, ↓inta_l, ↓inta_t, ↓W_exi, ↓W_chain, ↓W_not, ↓W_and, ↓W_or, ↓W_ife, ↓W_tup, ↓W_lst, ↓W_call, ↓W_frz, ↓W_mkbox, ↓W_app, ↓W_enil, ↓W_econs, ↓W_rng1, ↓W_rng2, ↓W_seq, ↓W_asg, ↓W_asgO, ↓W_asgT, ↓W_aug, ↓W_setix, ↓W_expr, ↓W_ret, ↓W_retN, ↓W_pass, ↓W_brk, ↓W_cont, ↓W_raise, ↓W_if, ↓W_for, ↓W_nil, ↓W_cons, ↓W_try, ↓W_ok, ↓W_exc, ↓WC_ok, ↓WC_exc, ↓WK_ok, ↓WK_exc, ↓TW_b, ↓DW_v, ↓DW_n, ↓IT_t, ↓IT_f, ↓IT_dt, ↓IT_df, IT_d, ↓IT_e1, ↓IT_e2, ↓IT_e3, ↓IT_e4, ↓IT_n, ↓IT_a, ↓SlW_v, ↓SlW_o, ↓OW_s, ↓FW_nx, ↓FW_rt, ↓FW_bk, ↓FW_ct, ↓RW_v, ↓RW_n, ↓RW_o, ↓bh_v, ↓bh_n, ↓bh_o, ↓Gam_glob, ↓D_add, ↓D_sub, ↓D_mul, ↓D_fdiv, ↓D_mod, ↓D_band, ↓D_bor, ↓D_bxor, ↓D_shl, ↓D_shr, ↓D_lt, ↓D_le, ↓D_gt, ↓D_ge, ↓D_eqi, ↓D_nei, ↓D_eqb, ↓D_eqll, ↓D_nell, ↓D_eqnn, ↓D_nenn, ↓D_eqnl, ↓D_nenl, ↓D_eqln, ↓D_neln, ↓D_eqtt, ↓D_nett, ↓D_ill, ↓D_itt, ↓D_neb, ↓D_isN, ↓D_inN, ↓D_isi1, ↓D_ini1, ↓D_ist1, ↓D_int1, ↓D_isl1, ↓D_inl1, ↓D_isn1, ↓D_inn1, ↓D_isb1, ↓D_inb1, ↓D_neg, ↓D_abs, ↓D_int, ↓D_intb, ↓D_lenT, ↓D_lenL, ↓D_lenS, ↓D_lenN, ↓D_lenB, ↓D_lenO, ↓D_max, ↓D_min, ↓D_ixT, ↓D_ixL, ↓D_ixS, ↓D_ixN, ↓D_ixB, ↓D_ixO, ↓D_setB, ↓D_setO, ↓D_appO, ↓D_lof, ↓D_catNN, ↓D_catNL, ↓D_catLN, ↓D_catLL, ↓D_ii, ↓D_ib, ↓D_bi, ↓D_bb, ↓BW_s, ↓OnW_s, ↓OnB_s, ↓VW_rv, ↓VW_rn, ↓VW_nx, ↓RV_rv, ↓at0, ↓at1, ↓at2, ↓at3, ↓Au_add, ↓Au_sub, ↓Au_bor, ↓Au_mul, ↓sT0, ↓sTS, ↓I1W_i, ↓I2W_i, ↓I3W_l, ↓I3W_s, ↓I3W_t, ↓I3W_n, ↓stepQ_nx, ↓stepQ_ct, ↓stepQ_bk, ↓stepQ_rt, ↓sE, ↓eg0, ↓egS, ↓st0, ↓stS, ↓true_and, ↓and_true, ↓eq_self, ↓isF_v, ↓isF_n, ↓decide_true, ↓decide_false, ↓Bool.not_true, ↓Bool.not_false, List.set_cons_zero, List.set_cons_succ, ↓W_comp, hT, au_c]
  refine ⟨hn, ?_⟩
  rw [CW_enumR]
  refine W_comp_enum (fun k _ => Cl.np (cs.getD k .pass)) (fun k _ => .int (k : Nat)) (sl := .none) (sl' := .none) (by decide) (by omega) rfl rfl rfl rfl ?_ ?_ ?_
  · intro j x hj
    rw [cls_get?] at hj
    cases e : cs[j]? with
    | none => rw [e] at hj; cases hj
    | some c =>
      rw [e] at hj
      cases hj
      have ec : cs.getD j .pass = c := by rw [List.getD_eq_getElem?_getD, e]; rfl
      simp -implicitDefEqProofs -dsimp (disch := omega) only [List.map, List.length, List.replicate, List.cons_append, List.nil_append, ↓W_dt, ↓W_fld, ↓W_meth, ↓W_make, ↓MkW_n, ↓W_popl, ↓W_setf, ↓W_augx, ↓W_asgM, ↓Gam_ncl, ↓EnW_l, ↓EnW_s, ↓EnW_n, ↓EnW_f, ↓EnW_b, ↓LG_rng, ↓LG_seq, ↓LG_enum, ↓LG_zip, ↓LG_str, ↓LG_seqR, ↓LG_enumR, ↓I3W_f, ↓I3W_b, ↓InW_s, ↓FdW_v, ↓FdW_o, ↓FdW_d, ↓InB_s, ↓D_fld, ↓D_meth, ↓D_setf, ↓SO_v, ↓SO_n, ↓SO_nf, ↓SO_d, ↓sq_f, ↓live_f, ↓live_b, ↓D_lenF, ↓D_ixF, ↓D_appF, ↓D_setF, ↓D_poplF, ↓D_lofF, ↓tp0, ↓tpS, ↓bh_f, ↓CG_rng, ↓CG_seq, ↓CG_enum, ↓CG_zip, ↓CG_str, ↓CG_seqR, ↓CG_enumR, ↓W_var, ↓W_cst, ↓W_glob, ↓W_bin, ↓W_cmp, ↓W_ix, ↓W_un, ↓W_blt, ↓W_blt2, ↓W_isi, ↓W_bits, ↓W_idx, ↓W_find, ↓W_pop, ↓W_dnew, ↓W_dix, ↓W_din, ↓W_sset, ↓D_sset, ↓W_lrg1, ↓W_lrg2, ↓W_dput, ↓StW_s, ↓ViW_i, ↓VaW_v, ↓SlW_d, ↓bh_nd, ↓OdW_s, ↓LnW_o, ↓LnW_d, ↓D_pop, ↓D_dixI, ↓D_dixS, ↓D_dinI, ↓D_dinS, ↓D_dputI, ↓D_dputS, ↓D_find, ↓D_lrg, ↓W_enum, ↓W_zip, ↓W_istr, ↓lstP_l, ↓lstP_s, ↓lstP_n, ↓lstQ_l, ↓W_revl, ↓W_revs, ↓W_sl, ↓W_bind, ↓W_partT, ↓W_partF, ↓PaW_i, ↓D_list, ↓D_tuple, ↓D_sum, ↓D_sorted, ↓D_maxl, ↓D_minl, ↓D_str, ↓D_bits, ↓D_revS, ↓D_revL, ↓D_revN, ↓seq_t, ↓seq_l, ↓seq_s, ↓seq_n, ↓seq_b, ↓seq_o, ↓ints_n, ↓ints_l, ↓inta_n, ↓inta_l, ↓inta_t, ↓W_exi, ↓W_chain, ↓W_not, ↓W_and, ↓W_or, ↓W_ife, ↓W_tup, ↓W_lst, ↓W_call, ↓W_frz, ↓W_mkbox, ↓W_app, ↓W_enil, ↓W_econs, ↓W_rng1, ↓W_rng2, ↓W_seq, ↓W_asg, ↓W_asgO, ↓W_asgT, ↓W_aug, ↓W_setix, ↓W_expr, ↓W_ret, ↓W_retN, ↓W_pass, ↓W_brk, ↓W_cont, ↓W_raise, ↓W_if, ↓W_for, ↓W_nil, ↓W_cons, ↓W_try, ↓W_ok, ↓W_exc, ↓WC_ok, ↓WC_exc, ↓WK_ok, ↓WK_exc, ↓TW_b, ↓DW_v, ↓DW_n, ↓IT_t, ↓IT_f, ↓IT_dt, ↓IT_df, IT_d, ↓IT_e1, ↓IT_e2, ↓IT_e3, ↓IT_e4, ↓IT_n, ↓IT_a, ↓SlW_v, ↓SlW_o, ↓OW_s, ↓FW_nx, ↓FW_rt, ↓FW_bk, ↓FW_ct, ↓RW_v, ↓RW_n, ↓RW_o, ↓bh_v, ↓bh_n, ↓bh_o, ↓Gam_glob, ↓D_add, ↓D_sub, ↓D_mul, ↓D_fdiv, ↓D_mod, ↓D_band, ↓D_bor, ↓D_bxor, ↓D_shl, ↓D_shr, ↓D_lt, ↓D_le, ↓D_gt, ↓D_ge, ↓D_eqi, ↓D_nei, ↓D_eqb, ↓D_eqll, ↓D_nell, ↓D_eqnn, ↓D_nenn, ↓D_eqnl, ↓D_nenl, ↓D_eqln, ↓D_neln, ↓D_eqtt, ↓D_nett, ↓D_ill, ↓D_itt, ↓D_neb, ↓D_isN, ↓D_inN, ↓D_isi1, ↓D_ini1, ↓D_ist1, ↓D_int1, ↓D_isl1, ↓D_inl1, ↓D_isn1, ↓D_inn1, ↓D_isb1, ↓D_inb1, ↓D_neg, ↓D_abs, ↓D_int, ↓D_intb, ↓D_lenT, ↓D_lenL, ↓D_lenS, ↓D_lenN, ↓D_lenB, ↓D_lenO, ↓D_max, ↓D_min, ↓D_ixT, ↓D_ixL, ↓D_ixS, ↓D_ixN, ↓D_ixB, ↓D_ixO, ↓D_setB, ↓D_setO, ↓D_appO, ↓D_lof, ↓D_catNN, ↓D_catNL, ↓D_catLN, ↓D_catLL, ↓D_ii, ↓D_ib, ↓D_bi, ↓D_bb, ↓BW_s, ↓OnW_s, ↓OnB_s, ↓VW_rv, ↓VW_rn, ↓VW_nx, ↓RV_rv, ↓at0, ↓at1, ↓at2, ↓at3, ↓Au_add, ↓Au_sub, ↓Au_bor, ↓Au_mul, ↓sT0, ↓sTS, ↓I1W_i, ↓I2W_i, ↓I3W_l, ↓I3W_s, ↓I3W_t, ↓I3W_n, ↓stepQ_nx, ↓stepQ_ct, ↓stepQ_bk, ↓stepQ_rt, ↓sE, ↓eg0, ↓egS, ↓st0, ↓stS, ↓true_and, ↓and_true, ↓eq_self, ↓isF_v, ↓isF_n, ↓decide_true, ↓decide_false, ↓Bool.not_true, ↓Bool.not_false, List.set_cons_zero, List.set_cons_succ, ec, A.qp, ↓D_neC]
      rfl
  · intro j x hj _
    simp -implicitDefEqProofs -dsimp (disch := omega) only [List.map, List.length, List.replicate, List.cons_append, List.nil_append, ↓W_dt, ↓W_fld, ↓W_meth, ↓W_make, ↓MkW_n, ↓W_popl, ↓W_setf, ↓W_augx, ↓W_asgM, ↓Gam_ncl, ↓EnW_l, ↓EnW_s, ↓EnW_n, ↓EnW_f, ↓EnW_b, ↓LG_rng, ↓LG_seq, ↓LG_enum, ↓LG_zip, ↓LG_str, ↓LG_seqR, ↓LG_enumR, ↓I3W_f, ↓I3W_b, ↓InW_s, ↓FdW_v, ↓FdW_o, ↓FdW_d, ↓InB_s, ↓D_fld, ↓D_meth, ↓D_setf, ↓SO_v, ↓SO_n, ↓SO_nf, ↓SO_d, ↓sq_f, ↓live_f, ↓live_b, ↓D_lenF, ↓D_ixF, ↓D_appF, ↓D_setF, ↓D_poplF, ↓D_lofF, ↓tp0, ↓tpS, ↓bh_f, ↓CG_rng, ↓CG_seq, ↓CG_enum, ↓CG_zip, ↓CG_str, ↓CG_seqR, ↓CG_enumR, ↓W_var, ↓W_cst, ↓W_glob, ↓W_bin, ↓W_cmp, ↓W_ix, ↓W_un, ↓W_blt, ↓W_blt2, ↓W_isi, ↓W_bits, ↓W_idx, ↓W_find, ↓W_pop, ↓W_dnew, ↓W_dix, ↓W_din, ↓W_sset, ↓D_sset, ↓W_lrg1, ↓W_lrg2, ↓W_dput, ↓StW_s, ↓ViW_i, ↓VaW_v, ↓SlW_d, ↓bh_nd, ↓OdW_s, ↓LnW_o, ↓LnW_d, ↓D_pop, ↓D_dixI, ↓D_dixS, ↓D_dinI, ↓D_dinS, ↓D_dputI, ↓D_dputS, ↓D_find, ↓D_lrg, ↓W_enum, ↓W_zip, ↓W_istr, ↓lstP_l, ↓lstP_s, ↓lstP_n, ↓lstQ_l, ↓W_revl, ↓W_revs, ↓W_sl, ↓W_bind, ↓W_partT, ↓W_partF, ↓PaW_i, ↓D_list, ↓D_tuple, ↓D_sum, ↓D_sorted, ↓D_maxl, ↓D_minl, ↓D_str, ↓D_bits, ↓D_revS, ↓D_revL, ↓D_revN, ↓seq_t, ↓seq_l, ↓seq_s, ↓seq_n, ↓seq_b, ↓seq_o, ↓ints_n, ↓ints_l, ↓inta_n, ↓inta_l, ↓inta_t, ↓W_exi, ↓W_chain, ↓W_not, ↓W_and, ↓W_or, ↓W_ife, ↓W_tup, ↓W_lst, ↓W_call, ↓W_frz, ↓W_mkbox, ↓W_app, ↓W_enil, ↓W_econs, ↓W_rng1, ↓W_rng2, ↓W_seq, ↓W_asg, ↓W_asgO, ↓W_asgT, ↓W_aug, ↓W_setix, ↓W_expr, ↓W_ret, ↓W_retN, ↓W_pass, ↓W_brk, ↓W_cont, ↓W_raise, ↓W_if, ↓W_for, ↓W_nil, ↓W_cons, ↓W_try, ↓W_ok, ↓W_exc, ↓WC_ok, ↓WC_exc, ↓WK_ok, ↓WK_exc, ↓TW_b, ↓DW_v, ↓DW_n, ↓IT_t, ↓IT_f, ↓IT_dt, ↓IT_df, IT_d, ↓IT_e1, ↓IT_e2, ↓IT_e3, ↓IT_e4, ↓IT_n, ↓IT_a, ↓SlW_v, ↓SlW_o, ↓OW_s, ↓FW_nx, ↓FW_rt, ↓FW_bk, ↓FW_ct, ↓RW_v, ↓RW_n, ↓RW_o, ↓bh_v, ↓bh_n, ↓bh_o, ↓Gam_glob, ↓D_add, ↓D_sub, ↓D_mul, ↓D_fdiv, ↓D_mod, ↓D_band, ↓D_bor, ↓D_bxor, ↓D_shl, ↓D_shr, ↓D_lt, ↓D_le, ↓D_gt, ↓D_ge, ↓D_eqi, ↓D_nei, ↓D_eqb, ↓D_eqll, ↓D_nell, ↓D_eqnn, ↓D_nenn, ↓D_eqnl, ↓D_nenl, ↓D_eqln, ↓D_neln, ↓D_eqtt, ↓D_nett, ↓D_ill, ↓D_itt, ↓D_neb, ↓D_isN, ↓D_inN, ↓D_isi1, ↓D_ini1, ↓D_ist1, ↓D_int1, ↓D_isl1, ↓D_inl1, ↓D_isn1, ↓D_inn1, ↓D_isb1, ↓D_inb1, ↓D_neg, ↓D_abs, ↓D_int, ↓D_intb, ↓D_lenT, ↓D_lenL, ↓D_lenS, ↓D_lenN, ↓D_lenB, ↓D_lenO, ↓D_max, ↓D_min, ↓D_ixT, ↓D_ixL, ↓D_ixS, ↓D_ixN, ↓D_ixB, ↓D_ixO, ↓D_setB, ↓D_setO, ↓D_appO, ↓D_lof, ↓D_catNN, ↓D_catNL, ↓D_catLN, ↓D_catLL, ↓D_ii, ↓D_ib, ↓D_bi, ↓D_bb, ↓BW_s, ↓OnW_s, ↓OnB_s, ↓VW_rv, ↓VW_rn, ↓VW_nx, ↓RV_rv, ↓at0, ↓at1, ↓at2, ↓at3, ↓Au_add, ↓Au_sub, ↓Au_bor, ↓Au_mul, ↓sT0, ↓sTS, ↓I1W_i, ↓I2W_i, ↓I3W_l, ↓I3W_s, ↓I3W_t, ↓I3W_n, ↓stepQ_nx, ↓stepQ_ct, ↓stepQ_bk, ↓stepQ_rt, ↓sE, ↓eg0, ↓egS, ↓st0, ↓stS, ↓true_and, ↓and_true, ↓eq_self, ↓isF_v, ↓isF_n, ↓decide_true, ↓decide_false, ↓Bool.not_true, ↓Bool.not_false, List.set_cons_zero, List.set_cons_succ]
  · rw [enum_pl]
    by_cases h : plN Cl.np cs = []
    · rw [lastI_none _ _ h, h]
      have e0 : natsD [] = [] := rfl
      simp -implicitDefEqProofs -dsimp (disch := omega) only [List.map, List.length, List.replicate, List.cons_append, List.nil_append, ↓W_dt, ↓W_fld, ↓W_meth, ↓W_make, ↓MkW_n, ↓W_popl, ↓W_setf, ↓W_augx, ↓W_asgM, ↓Gam_ncl, ↓EnW_l, ↓EnW_s, ↓EnW_n, ↓EnW_f, ↓EnW_b, ↓LG_rng, ↓LG_seq, ↓LG_enum, ↓LG_zip, ↓LG_str, ↓LG_seqR, ↓LG_enumR, ↓I3W_f, ↓I3W_b, ↓InW_s, ↓FdW_v, ↓FdW_o, ↓FdW_d, ↓InB_s, ↓D_fld, ↓D_meth, ↓D_setf, ↓SO_v, ↓SO_n, ↓SO_nf, ↓SO_d, ↓sq_f, ↓live_f, ↓live_b, ↓D_lenF, ↓D_ixF, ↓D_appF, ↓D_setF, ↓D_poplF, ↓D_lofF, ↓tp0, ↓tpS, ↓bh_f, ↓CG_rng, ↓CG_seq, ↓CG_enum, ↓CG_zip, ↓CG_str, ↓CG_seqR, ↓CG_enumR, ↓W_var, ↓W_cst, ↓W_glob, ↓W_bin, ↓W_cmp, ↓W_ix, ↓W_un, ↓W_blt, ↓W_blt2, ↓W_isi, ↓W_bits, ↓W_idx, ↓W_find, ↓W_pop, ↓W_dnew, ↓W_dix, ↓W_din, ↓W_sset, ↓D_sset, ↓W_lrg1, ↓W_lrg2, ↓W_dput, ↓StW_s, ↓ViW_i, ↓VaW_v, ↓SlW_d, ↓bh_nd, ↓OdW_s, ↓LnW_o, ↓LnW_d, ↓D_pop, ↓D_dixI, ↓D_dixS, ↓D_dinI, ↓D_dinS, ↓D_dputI, ↓D_dputS, ↓D_find, ↓D_lrg, ↓W_enum, ↓W_zip, ↓W_istr, ↓lstP_l, ↓lstP_s, ↓lstP_n, ↓lstQ_l, ↓W_revl, ↓W_revs, ↓W_sl, ↓W_bind, ↓W_partT, ↓W_partF, ↓PaW_i, ↓D_list, ↓D_tuple, ↓D_sum, ↓D_sorted, ↓D_maxl, ↓D_minl, ↓D_str, ↓D_bits, ↓D_revS, ↓D_revL, ↓D_revN, ↓seq_t, ↓seq_l, ↓seq_s, ↓seq_n, ↓seq_b, ↓seq_o, ↓ints_n, ↓ints_l, ↓inta_n, ↓inta_l, ↓inta_t, ↓W_exi, ↓W_chain, ↓W_not, ↓W_and, ↓W_or, ↓W_ife, ↓W_tup, ↓W_lst, ↓W_call, ↓W_frz, ↓W_mkbox, ↓W_app, ↓W_enil, ↓W_econs, ↓W_rng1, ↓W_rng2, ↓W_seq, ↓W_asg, ↓W_asgO, ↓W_asgT, ↓W_aug, ↓W_setix, ↓W_expr, ↓W_ret, ↓W_retN, ↓W_pass, ↓W_brk, ↓W_cont, ↓W_raise, ↓W_if, ↓W_for, ↓W_nil, ↓W_cons, ↓W_try, ↓W_ok, ↓W_exc, ↓WC_ok, ↓WC_exc, ↓WK_ok, ↓WK_exc, ↓TW_b, ↓DW_v, ↓DW_n, ↓IT_t, ↓IT_f, ↓IT_dt, ↓IT_df, IT_d, ↓IT_e1, ↓IT_e2, ↓IT_e3, ↓IT_e4, ↓IT_n, ↓IT_a, ↓SlW_v, ↓SlW_o, ↓OW_s, ↓FW_nx, ↓FW_rt, ↓FW_bk, ↓FW_ct, ↓RW_v, ↓RW_n, ↓RW_o, ↓bh_v, ↓bh_n, ↓bh_o, ↓Gam_glob, ↓D_add, ↓D_sub, ↓D_mul, ↓D_fdiv, ↓D_mod, ↓D_band, ↓D_bor, ↓D_bxor, ↓D_shl, ↓D_shr, ↓D_lt, ↓D_le, ↓D_gt, ↓D_ge, ↓D_eqi, ↓D_nei, ↓D_eqb, ↓D_eqll, ↓D_nell, ↓D_eqnn, ↓D_nenn, ↓D_eqnl, ↓D_nenl, ↓D_eqln, ↓D_neln, ↓D_eqtt, ↓D_nett, ↓D_ill, ↓D_itt, ↓D_neb, ↓D_isN, ↓D_inN, ↓D_isi1, ↓D_ini1, ↓D_ist1, ↓D_int1, ↓D_isl1, ↓D_inl1, ↓D_isn1, ↓D_inn1, ↓D_isb1, ↓D_inb1, ↓D_neg, ↓D_abs, ↓D_int, ↓D_intb, ↓D_lenT, ↓D_lenL, ↓D_lenS, ↓D_lenN, ↓D_lenB, ↓D_lenO, ↓D_max, ↓D_min, ↓D_ixT, ↓D_ixL, ↓D_ixS, ↓D_ixN, ↓D_ixB, ↓D_ixO, ↓D_setB, ↓D_setO, ↓D_appO, ↓D_lof, ↓D_catNN, ↓D_catNL, ↓D_catLN, ↓D_catLL, ↓D_ii, ↓D_ib, ↓D_bi, ↓D_bb, ↓BW_s, ↓OnW_s, ↓OnB_s, ↓VW_rv, ↓VW_rn, ↓VW_nx, ↓RV_rv, ↓at0, ↓at1, ↓at2, ↓at3, ↓Au_add, ↓Au_sub, ↓Au_bor, ↓Au_mul, ↓sT0, ↓sTS, ↓I1W_i, ↓I2W_i, ↓I3W_l, ↓I3W_s, ↓I3W_t, ↓I3W_n, ↓stepQ_nx, ↓stepQ_ct, ↓stepQ_bk, ↓stepQ_rt, ↓sE, ↓eg0, ↓egS, ↓st0, ↓stS, ↓true_and, ↓and_true, ↓eq_self, ↓isF_v, ↓isF_n, ↓decide_true, ↓decide_false, ↓Bool.not_true, ↓Bool.not_false, List.set_cons_zero, List.set_cons_succ, e0]
    · have hs := lastI_some Cl.np cs h
      cases hs with
      | intro m hs =>
      have hm := at_neg1 _ _ hs.2.2.1
      have hlen : 0 < (plN Cl.np cs).length := List.length_pos_iff.2 h
      have ln := natsD_len (plN Cl.np cs)
      rw [hs.2.1]
      simp -implicitDefEqProofs -dsimp (disch := omega) only [List.map, List.length, List.replicate, List.cons_append, List.nil_append, ↓W_dt, ↓W_fld, ↓W_meth, ↓W_make, ↓MkW_n, ↓W_popl, ↓W_setf, ↓W_augx, ↓W_asgM, ↓Gam_ncl, ↓EnW_l, ↓EnW_s, ↓EnW_n, ↓EnW_f, ↓EnW_b, ↓LG_rng, ↓LG_seq, ↓LG_enum, ↓LG_zip, ↓LG_str, ↓LG_seqR, ↓LG_enumR, ↓I3W_f, ↓I3W_b, ↓InW_s, ↓FdW_v, ↓FdW_o, ↓FdW_d, ↓InB_s, ↓D_fld, ↓D_meth, ↓D_setf, ↓SO_v, ↓SO_n, ↓SO_nf, ↓SO_d, ↓sq_f, ↓live_f, ↓live_b, ↓D_lenF, ↓D_ixF, ↓D_appF, ↓D_setF, ↓D_poplF, ↓D_lofF, ↓tp0, ↓tpS, ↓bh_f, ↓CG_rng, ↓CG_seq, ↓CG_enum, ↓CG_zip, ↓CG_str, ↓CG_seqR, ↓CG_enumR, ↓W_var, ↓W_cst, ↓W_glob, ↓W_bin, ↓W_cmp, ↓W_ix, ↓W_un, ↓W_blt, ↓W_blt2, ↓W_isi, ↓W_bits, ↓W_idx, ↓W_find, ↓W_pop, ↓W_dnew, ↓W_dix, ↓W_din, ↓W_sset, ↓D_sset, ↓W_lrg1, ↓W_lrg2, ↓W_dput, ↓StW_s, ↓ViW_i, ↓VaW_v, ↓SlW_d, ↓bh_nd, ↓OdW_s, ↓LnW_o, ↓LnW_d, ↓D_pop, ↓D_dixI, ↓D_dixS, ↓D_dinI, ↓D_dinS, ↓D_dputI, ↓D_dputS, ↓D_find, ↓D_lrg, ↓W_enum, ↓W_zip, ↓W_istr, ↓lstP_l, ↓lstP_s, ↓lstP_n, ↓lstQ_l, ↓W_revl, ↓W_revs, ↓W_sl, ↓W_bind, ↓W_partT, ↓W_partF, ↓PaW_i, ↓D_list, ↓D_tuple, ↓D_sum, ↓D_sorted, ↓D_maxl, ↓D_minl, ↓D_str, ↓D_bits, ↓D_revS, ↓D_revL, ↓D_revN, ↓seq_t, ↓seq_l, ↓seq_s, ↓seq_n, ↓seq_b, ↓seq_o, ↓ints_n, ↓ints_l, ↓inta_n, ↓inta_l, ↓inta_t, ↓W_exi, ↓W_chain, ↓W_not, ↓W_and, ↓W_or, ↓W_ife, ↓W_tup, ↓W_lst, ↓W_call, ↓W_frz, ↓W_mkbox, ↓W_app, ↓W_enil, ↓W_econs, ↓W_rng1, ↓W_rng2, ↓W_seq, ↓W_asg, ↓W_asgO, ↓W_asgT, ↓W_aug, ↓W_setix, ↓W_expr, ↓W_ret, ↓W_retN, ↓W_pass, ↓W_brk, ↓W_cont, ↓W_raise, ↓W_if, ↓W_for, ↓W_nil, ↓W_cons, ↓W_try, ↓W_ok, ↓W_exc, ↓WC_ok, ↓WC_exc, ↓WK_ok, ↓WK_exc, ↓TW_b, ↓DW_v, ↓DW_n, ↓IT_t, ↓IT_f, ↓IT_dt, ↓IT_df, IT_d, ↓IT_e1, ↓IT_e2, ↓IT_e3, ↓IT_e4, ↓IT_n, ↓IT_a, ↓SlW_v, ↓SlW_o, ↓OW_s, ↓FW_nx, ↓FW_rt, ↓FW_bk, ↓FW_ct, ↓RW_v, ↓RW_n, ↓RW_o, ↓bh_v, ↓bh_n, ↓bh_o, ↓Gam_glob, ↓D_add, ↓D_sub, ↓D_mul, ↓D_fdiv, ↓D_mod, ↓D_band, ↓D_bor, ↓D_bxor, ↓D_shl, ↓D_shr, ↓D_lt, ↓D_le, ↓D_gt, ↓D_ge, ↓D_eqi, ↓D_nei, ↓D_eqb, ↓D_eqll, ↓D_nell, ↓D_eqnn, ↓D_nenn, ↓D_eqnl, ↓D_nenl, ↓D_eqln, ↓D_neln, ↓D_eqtt, ↓D_nett, ↓D_ill, ↓D_itt, ↓D_neb, ↓D_isN, ↓D_inN, ↓D_isi1, ↓D_ini1, ↓D_ist1, ↓D_int1, ↓D_isl1, ↓D_inl1, ↓D_isn1, ↓D_inn1, ↓D_isb1, ↓D_inb1, ↓D_neg, ↓D_abs, ↓D_int, ↓D_intb, ↓D_lenT, ↓D_lenL, ↓D_lenS, ↓D_lenN, ↓D_lenB, ↓D_lenO, ↓D_max, ↓D_min, ↓D_ixT, ↓D_ixL, ↓D_ixS, ↓D_ixN, ↓D_ixB, ↓D_ixO, ↓D_setB, ↓D_setO, ↓D_appO, ↓D_lof, ↓D_catNN, ↓D_catNL, ↓D_catLN, ↓D_catLL, ↓D_ii, ↓D_ib, ↓D_bi, ↓D_bb, ↓BW_s, ↓OnW_s, ↓OnB_s, ↓VW_rv, ↓VW_rn, ↓VW_nx, ↓RV_rv, ↓at0, ↓at1, ↓at2, ↓at3, ↓Au_add, ↓Au_sub, ↓Au_bor, ↓Au_mul, ↓sT0, ↓sTS, ↓I1W_i, ↓I2W_i, ↓I3W_l, ↓I3W_s, ↓I3W_t, ↓I3W_n, ↓stepQ_nx, ↓stepQ_ct, ↓stepQ_bk, ↓stepQ_rt, ↓sE, ↓eg0, ↓egS, ↓st0, ↓stS, ↓true_and, ↓and_true, ↓eq_self, ↓isF_v, ↓isF_n, ↓decide_true, ↓decide_false, ↓Bool.not_true, ↓Bool.not_false, List.set_cons_zero, List.set_cons_succ, ln, hm]
theorem au_lastb (hk : 0 < k) (hT : T[n]? = some (.ins 0 (auF b d cs))) (hl : cs.length ≤ 1000) : run p k A.fk ro [.box n] T = .ok (.val (.int (lastI Cl.isBid cs))) T := by
  have zl : sizeLine = 16777216 := rfl
  refine WC_eq (WC_run (by rw [A.ak]; rfl) A.hk hk ?_)
  have hn := A.ncl
  have lc := clsD_len cs
  simp -implicitDefEqProofs -dsimp (disch := omega) only [bAuK, List.map, List.length, List.replicate, List.cons_append, List.nil_append, ↓W_dt, ↓W_fld, ↓W_meth, ↓W_make, ↓MkW_n, ↓W_popl, ↓W_setf, ↓W_augx, ↓W_asgM, ↓Gam_ncl, ↓EnW_l, ↓EnW_s, ↓EnW_n, ↓EnW_f, ↓EnW_b, ↓LG_rng, ↓LG_seq, ↓LG_enum, ↓LG_zip, ↓LG_str, ↓LG_seqR, ↓LG_enumR, ↓I3W_f, ↓I3W_b, ↓InW_s, ↓FdW_v, ↓FdW_o, ↓FdW_d, ↓InB_s, ↓D_fld, ↓D_meth, ↓D_setf, ↓SO_v, ↓SO_n, ↓SO_nf, ↓SO_d, ↓sq_f, ↓live_f, ↓live_b, ↓D_lenF, ↓D_ixF, ↓D_appF, ↓D_setF, ↓D_poplF, ↓D_lofF, ↓tp0, ↓tpS, ↓bh_f, ↓CG_rng, ↓CG_seq, ↓CG_enum, ↓CG_zip, ↓CG_str, ↓CG_seqR, ↓CG_enumR, ↓W_var, ↓W_cst, ↓W_glob, ↓W_bin, ↓W_cmp, ↓W_ix, ↓W_un, ↓W_blt, ↓W_blt2, ↓W_isi, ↓W_bits, ↓W_idx, ↓W_find, ↓W_pop, ↓W_dnew, ↓W_dix, ↓W_din, ↓W_sset, ↓D_sset, ↓W_lrg1, ↓W_lrg2, ↓W_dput, ↓StW_s, ↓ViW_i, ↓VaW_v, ↓SlW_d, ↓bh_nd, ↓OdW_s, ↓LnW_o, ↓LnW_d, ↓D_pop, ↓D_dixI, ↓D_dixS, ↓D_dinI, ↓D_dinS, ↓D_dputI, ↓D_dputS, ↓D_find, ↓D_lrg, ↓W_enum, ↓W_zip, ↓W_istr, ↓lstP_l, ↓lstP_s, ↓lstP_n, ↓lstQ_l, ↓W_revl, ↓W_revs, ↓W_sl, ↓W_bind, ↓W_partT, ↓W_partF, ↓PaW_i, ↓D_list, ↓D_tuple, ↓D_sum, ↓D_sorted, ↓D_maxl, ↓D_minl, ↓D_str, ↓D_bits, ↓D_revS, ↓D_revL, ↓D_revN, ↓seq_t, ↓seq_l, ↓seq_s, ↓seq_n, ↓seq_b, ↓seq_o, ↓ints_n, ↓ints_l, ↓inta_n, ↓inta_l, ↓inta_t, ↓W_exi, ↓W_chain, ↓W_not, ↓W_and, ↓W_or, ↓W_ife, ↓W_tup, ↓W_lst, ↓W_call, ↓W_frz, ↓W_mkbox, ↓W_app, ↓W_enil, ↓W_econs, ↓W_rng1, ↓W_rng2, ↓W_seq, ↓W_asg, ↓W_asgO, ↓W_asgT, ↓W_aug, ↓W_setix, ↓W_expr, ↓W_ret, ↓W_retN, ↓W_pass, ↓W_brk, ↓W_cont, ↓W_raise, ↓W_if, ↓W_for, ↓W_nil, ↓W_cons, ↓W_try, ↓W_ok, ↓W_exc, ↓WC_ok, ↓WC_exc, ↓WK_ok, ↓WK_exc, ↓TW_b, ↓DW_v, ↓DW_n, ↓IT_t, ↓IT_f, ↓IT_dt, ↓IT_df, IT_d, ↓IT_e1, ↓IT_e2, ↓IT_e3, ↓IT_e4, ↓IT_n, ↓IT_a, ↓SlW_v, ↓SlW_o, ↓OW_s, ↓FW_nx, ↓FW_rt, ↓FW_bk, ↓FW_ct, ↓RW_v, ↓RW_n, ↓RW_o, ↓bh_v, ↓bh_n, ↓bh_o, ↓Gam_glob, ↓D_add, ↓D_sub, ↓D_mul, ↓D_fdiv, ↓D_mod, ↓D_band, ↓D_bor, ↓D_bxor, ↓D_shl, ↓D_shr, ↓D_lt, ↓D_le, ↓D_gt, ↓D_ge, ↓D_eqi, ↓D_nei, ↓D_eqb, ↓D_eqll, ↓D_nell, ↓D_eqnn, ↓D_nenn, ↓D_eqnl, ↓D_nenl, ↓D_eqln, ↓D_neln, ↓D_eqtt, ↓D_nett, ↓D_ill, ↓D_itt, ↓D_neb, ↓D_isN, ↓D_inN, ↓D_isi1, ↓D_ini1, ↓D_ist1, ↓D_int1, ↓D_isl1, ↓D_inl1, ↓D_isn1, ↓D_inn1, ↓D_isb1, ↓D_inb1, ↓D_neg, ↓D_abs, ↓D_int, ↓D_intb, ↓D_lenT, ↓D_lenL, ↓D_lenS, ↓D_lenN, ↓D_lenB, ↓D_lenO, ↓D_max, ↓D_min, ↓D_ixT, ↓D_ixL, ↓D_ixS, ↓D_ixN, ↓D_ixB, ↓D_ixO, ↓D_setB, ↓D_setO, ↓D_appO, ↓D_lof, ↓D_catNN, ↓D_catNL, ↓D_catLN, ↓D_catLL, ↓D_ii, ↓D_ib, ↓D_bi, ↓D_bb, ↓BW_s, ↓OnW_s, ↓OnB_s, ↓VW_rv, ↓VW_rn, ↓VW_nx, ↓RV_rv, ↓at0, ↓at1, ↓at2, ↓at3, ↓Au_add, ↓Au_sub, ↓Au_bor, ↓Au_mul, ↓sT0, ↓sTS, ↓I1W_i, ↓I2W_i, ↓I3W_l, ↓I3W_s, ↓I3W_t, ↓I3W_n, ↓stepQ_nx, ↓stepQ_ct, ↓stepQ_bk, ↓stepQ_rt, ↓sE, ↓eg0, ↓egS, ↓st0, ↓stS, ↓true_and, ↓and_true, ↓eq_self, ↓isF_v, ↓isF_n, ↓decide_true, ↓decide_false, ↓Bool.not_true, ↓Bool.not_false, List.set_cons_zero, List.set_cons_succ, ↓W_comp, hT, au_c]
  refine ⟨hn, ?_⟩
  rw [CW_enumR]
  refine W_comp_enum (fun k _ => Cl.isBid (cs.getD k .pass)) (fun k _ => .int (k : Nat)) (sl := .none) (sl' := .none) (by decide) (by omega) rfl rfl rfl rfl ?_ ?_ ?_
  · intro j x hj
    rw [cls_get?] at hj
    cases e : cs[j]? with
    | none => rw [e] at hj; cases hj
    | some c =>
      rw [e] at hj
      cases hj
      have ec : cs.getD j .pass = c := by rw [List.getD_eq_getElem?_getD, e]; rfl
      simp -implicitDefEqProofs -dsimp (disch := omega) only [List.map, List.length, List.replicate, List.cons_append, List.nil_append, ↓W_dt, ↓W_fld, ↓W_meth, ↓W_make, ↓MkW_n, ↓W_popl, ↓W_setf, ↓W_augx, ↓W_asgM, ↓Gam_ncl, ↓EnW_l, ↓EnW_s, ↓EnW_n, ↓EnW_f, ↓EnW_b, ↓LG_rng, ↓LG_seq, ↓LG_enum, ↓LG_zip, ↓LG_str, ↓LG_seqR, ↓LG_enumR, ↓I3W_f, ↓I3W_b, ↓InW_s, ↓FdW_v, ↓FdW_o, ↓FdW_d, ↓InB_s, ↓D_fld, ↓D_meth, ↓D_setf, ↓SO_v, ↓SO_n, ↓SO_nf, ↓SO_d, ↓sq_f, ↓live_f, ↓live_b, ↓D_lenF, ↓D_ixF, ↓D_appF, ↓D_setF, ↓D_poplF, ↓D_lofF, ↓tp0, ↓tpS, ↓bh_f, ↓CG_rng, ↓CG_seq, ↓CG_enum, ↓CG_zip, ↓CG_str, ↓CG_seqR, ↓CG_enumR, ↓W_var, ↓W_cst, ↓W_glob, ↓W_bin, ↓W_cmp, ↓W_ix, ↓W_un, ↓W_blt, ↓W_blt2, ↓W_isi, ↓W_bits, ↓W_idx, ↓W_find, ↓W_pop, ↓W_dnew, ↓W_dix, ↓W_din, ↓W_sset, ↓D_sset, ↓W_lrg1, ↓W_lrg2, ↓W_dput, ↓StW_s, ↓ViW_i, ↓VaW_v, ↓SlW_d, ↓bh_nd, ↓OdW_s, ↓LnW_o, ↓LnW_d, ↓D_pop, ↓D_dixI, ↓D_dixS, ↓D_dinI, ↓D_dinS, ↓D_dputI, ↓D_dputS, ↓D_find, ↓D_lrg, ↓W_enum, ↓W_zip, ↓W_istr, ↓lstP_l, ↓lstP_s, ↓lstP_n, ↓lstQ_l, ↓W_revl, ↓W_revs, ↓W_sl, ↓W_bind, ↓W_partT, ↓W_partF, ↓PaW_i, ↓D_list, ↓D_tuple, ↓D_sum, ↓D_sorted, ↓D_maxl, ↓D_minl, ↓D_str, ↓D_bits, ↓D_revS, ↓D_revL, ↓D_revN, ↓seq_t, ↓seq_l, ↓seq_s, ↓seq_n, ↓seq_b, ↓seq_o, ↓ints_n, ↓ints_l, ↓inta_n, ↓inta_l, ↓inta_t, ↓W_exi, ↓W_chain, ↓W_not, ↓W_and, ↓W_or, ↓W_ife, ↓W_tup, ↓W_lst, ↓W_call, ↓W_frz, ↓W_mkbox, ↓W_app, ↓W_enil, ↓W_econs, ↓W_rng1, ↓W_rng2, ↓W_seq, ↓W_asg, ↓W_asgO, ↓W_asgT, ↓W_aug, ↓W_setix, ↓W_expr, ↓W_ret, ↓W_retN, ↓W_pass, ↓W_brk, ↓W_cont, ↓W_raise, ↓W_if, ↓W_for, ↓W_nil, ↓W_cons, ↓W_try, ↓W_ok, ↓W_exc, ↓WC_ok, ↓WC_exc, ↓WK_ok, ↓WK_exc, ↓TW_b, ↓DW_v, ↓DW_n, ↓IT_t, ↓IT_f, ↓IT_dt, ↓IT_df, IT_d, ↓IT_e1, ↓IT_e2, ↓IT_e3, ↓IT_e4, ↓IT_n, ↓IT_a, ↓SlW_v, ↓SlW_o, ↓OW_s, ↓FW_nx, ↓FW_rt, ↓FW_bk, ↓FW_ct, ↓RW_v, ↓RW_n, ↓RW_o, ↓bh_v, ↓bh_n, ↓bh_o, ↓Gam_glob, ↓D_add, ↓D_sub, ↓D_mul, ↓D_fdiv, ↓D_mod, ↓D_band, ↓D_bor, ↓D_bxor, ↓D_shl, ↓D_shr, ↓D_lt, ↓D_le, ↓D_gt, ↓D_ge, ↓D_eqi, ↓D_nei, ↓D_eqb, ↓D_eqll, ↓D_nell, ↓D_eqnn, ↓D_nenn, ↓D_eqnl, ↓D_nenl, ↓D_eqln, ↓D_neln, ↓D_eqtt, ↓D_nett, ↓D_ill, ↓D_itt, ↓D_neb, ↓D_isN, ↓D_inN, ↓D_isi1, ↓D_ini1, ↓D_ist1, ↓D_int1, ↓D_isl1, ↓D_inl1, ↓D_isn1, ↓D_inn1, ↓D_isb1, ↓D_inb1, ↓D_neg, ↓D_abs, ↓D_int, ↓D_intb, ↓D_lenT, ↓D_lenL, ↓D_lenS, ↓D_lenN, ↓D_lenB, ↓D_lenO, ↓D_max, ↓D_min, ↓D_ixT, ↓D_ixL, ↓D_ixS, ↓D_ixN, ↓D_ixB, ↓D_ixO, ↓D_setB, ↓D_setO, ↓D_appO, ↓D_lof, ↓D_catNN, ↓D_catNL, ↓D_catLN, ↓D_catLL, ↓D_ii, ↓D_ib, ↓D_bi, ↓D_bb, ↓BW_s, ↓OnW_s, ↓OnB_s, ↓VW_rv, ↓VW_rn, ↓VW_nx, ↓RV_rv, ↓at0, ↓at1, ↓at2, ↓at3, ↓Au_add, ↓Au_sub, ↓Au_bor, ↓Au_mul, ↓sT0, ↓sTS, ↓I1W_i, ↓I2W_i, ↓I3W_l, ↓I3W_s, ↓I3W_t, ↓I3W_n, ↓stepQ_nx, ↓stepQ_ct, ↓stepQ_bk, ↓stepQ_rt, ↓sE, ↓eg0, ↓egS, ↓st0, ↓stS, ↓true_and, ↓and_true, ↓eq_self, ↓isF_v, ↓isF_n, ↓decide_true, ↓decide_false, ↓Bool.not_true, ↓Bool.not_false, List.set_cons_zero, List.set_cons_succ, ec, ↓D_ix0C, ↓D_eqS, cl_bid]
  · intro j x hj _
    simp -implicitDefEqProofs -dsimp (disch := omega) only [List.map, List.length, List.replicate, List.cons_append, List.nil_append, ↓W_dt, ↓W_fld, ↓W_meth, ↓W_make, ↓MkW_n, ↓W_popl, ↓W_setf, ↓W_augx, ↓W_asgM, ↓Gam_ncl, ↓EnW_l, ↓EnW_s, ↓EnW_n, ↓EnW_f, ↓EnW_b, ↓LG_rng, ↓LG_seq, ↓LG_enum, ↓LG_zip, ↓LG_str, ↓LG_seqR, ↓LG_enumR, ↓I3W_f, ↓I3W_b, ↓InW_s, ↓FdW_v, ↓FdW_o, ↓FdW_d, ↓InB_s, ↓D_fld, ↓D_meth, ↓D_setf, ↓SO_v, ↓SO_n, ↓SO_nf, ↓SO_d, ↓sq_f, ↓live_f, ↓live_b, ↓D_lenF, ↓D_ixF, ↓D_appF, ↓D_setF, ↓D_poplF, ↓D_lofF, ↓tp0, ↓tpS, ↓bh_f, ↓CG_rng, ↓CG_seq, ↓CG_enum, ↓CG_zip, ↓CG_str, ↓CG_seqR, ↓CG_enumR, ↓W_var, ↓W_cst, ↓W_glob, ↓W_bin, ↓W_cmp, ↓W_ix, ↓W_un, ↓W_blt, ↓W_blt2, ↓W_isi, ↓W_bits, ↓W_idx, ↓W_find, ↓W_pop, ↓W_dnew, ↓W_dix, ↓W_din, ↓W_sset, ↓D_sset, ↓W_lrg1, ↓W_lrg2, ↓W_dput, ↓StW_s, ↓ViW_i, ↓VaW_v, ↓SlW_d, ↓bh_nd, ↓OdW_s, ↓LnW_o, ↓LnW_d, ↓D_pop, ↓D_dixI, ↓D_dixS, ↓D_dinI, ↓D_dinS, ↓D_dputI, ↓D_dputS, ↓D_find, ↓D_lrg, ↓W_enum, ↓W_zip, ↓W_istr, ↓lstP_l, ↓lstP_s, ↓lstP_n, ↓lstQ_l, ↓W_revl, ↓W_revs, ↓W_sl, ↓W_bind, ↓W_partT, ↓W_partF, ↓PaW_i, ↓D_list, ↓D_tuple, ↓D_sum, ↓D_sorted, ↓D_maxl, ↓D_minl, ↓D_str, ↓D_bits, ↓D_revS, ↓D_revL, ↓D_revN, ↓seq_t, ↓seq_l, ↓seq_s, ↓seq_n, ↓seq_b, ↓seq_o, ↓ints_n, ↓ints_l, ↓inta_n, ↓inta_l, ↓inta_t, ↓W_exi, ↓W_chain, ↓W_not, ↓W_and, ↓W_or, ↓W_ife, ↓W_tup, ↓W_lst, ↓W_call, ↓W_frz, ↓W_mkbox, ↓W_app, ↓W_enil, ↓W_econs, ↓W_rng1, ↓W_rng2, ↓W_seq, ↓W_asg, ↓W_asgO, ↓W_asgT, ↓W_aug, ↓W_setix, ↓W_expr, ↓W_ret, ↓W_retN, ↓W_pass, ↓W_brk, ↓W_cont, ↓W_raise, ↓W_if, ↓W_for, ↓W_nil, ↓W_cons, ↓W_try, ↓W_ok, ↓W_exc, ↓WC_ok, ↓WC_exc, ↓WK_ok, ↓WK_exc, ↓TW_b, ↓DW_v, ↓DW_n, ↓IT_t, ↓IT_f, ↓IT_dt, ↓IT_df, IT_d, ↓IT_e1, ↓IT_e2, ↓IT_e3, ↓IT_e4, ↓IT_n, ↓IT_a, ↓SlW_v, ↓SlW_o, ↓OW_s, ↓FW_nx, ↓FW_rt, ↓FW_bk, ↓FW_ct, ↓RW_v, ↓RW_n, ↓RW_o, ↓bh_v, ↓bh_n, ↓bh_o, ↓Gam_glob, ↓D_add, ↓D_sub, ↓D_mul, ↓D_fdiv, ↓D_mod, ↓D_band, ↓D_bor, ↓D_bxor, ↓D_shl, ↓D_shr, ↓D_lt, ↓D_le, ↓D_gt, ↓D_ge, ↓D_eqi, ↓D_nei, ↓D_eqb, ↓D_eqll, ↓D_nell, ↓D_eqnn, ↓D_nenn, ↓D_eqnl, ↓D_nenl, ↓D_eqln, ↓D_neln, ↓D_eqtt, ↓D_nett, ↓D_ill, ↓D_itt, ↓D_neb, ↓D_isN, ↓D_inN, ↓D_isi1, ↓D_ini1, ↓D_ist1, ↓D_int1, ↓D_isl1, ↓D_inl1, ↓D_isn1, ↓D_inn1, ↓D_isb1, ↓D_inb1, ↓D_neg, ↓D_abs, ↓D_int, ↓D_intb, ↓D_lenT, ↓D_lenL, ↓D_lenS, ↓D_lenN, ↓D_lenB, ↓D_lenO, ↓D_max, ↓D_min, ↓D_ixT, ↓D_ixL, ↓D_ixS, ↓D_ixN, ↓D_ixB, ↓D_ixO, ↓D_setB, ↓D_setO, ↓D_appO, ↓D_lof, ↓D_catNN, ↓D_catNL, ↓D_catLN, ↓D_catLL, ↓D_ii, ↓D_ib, ↓D_bi, ↓D_bb, ↓BW_s, ↓OnW_s, ↓OnB_s, ↓VW_rv, ↓VW_rn, ↓VW_nx, ↓RV_rv, ↓at0, ↓at1, ↓at2, ↓at3, ↓Au_add, ↓Au_sub, ↓Au_bor, ↓Au_mul, ↓sT0, ↓sTS, ↓I1W_i, ↓I2W_i, ↓I3W_l, ↓I3W_s, ↓I3W_t, ↓I3W_n, ↓stepQ_nx, ↓stepQ_ct, ↓stepQ_bk, ↓stepQ_rt, ↓sE, ↓eg0, ↓egS, ↓st0, ↓stS, ↓true_and, ↓and_true, ↓eq_self, ↓isF_v, ↓isF_n, ↓decide_true, ↓decide_false, ↓Bool.not_true, ↓Bool.not_false, List.set_cons_zero, List.set_cons_succ]
  · rw [enum_pl]
    by_cases h : plN Cl.isBid cs = []
    · rw [lastI_none _ _ h, h]
      have e0 : natsD [] = [] := rfl
      simp -implicitDefEqProofs -dsimp (disch := omega) only [List.map, List.length, List.replicate, List.cons_append, List.nil_append, ↓W_dt, ↓W_fld, ↓W_meth, ↓W_make, ↓MkW_n, ↓W_popl, ↓W_setf, ↓W_augx, ↓W_asgM, ↓Gam_ncl, ↓EnW_l, ↓EnW_s, ↓EnW_n, ↓EnW_f, ↓EnW_b, ↓LG_rng, ↓LG_seq, ↓LG_enum, ↓LG_zip, ↓LG_str, ↓LG_seqR, ↓LG_enumR, ↓I3W_f, ↓I3W_b, ↓InW_s, ↓FdW_v, ↓FdW_o, ↓FdW_d, ↓InB_s, ↓D_fld, ↓D_meth, ↓D_setf, ↓SO_v, ↓SO_n, ↓SO_nf, ↓SO_d, ↓sq_f, ↓live_f, ↓live_b, ↓D_lenF, ↓D_ixF, ↓D_appF, ↓D_setF, ↓D_poplF, ↓D_lofF, ↓tp0, ↓tpS, ↓bh_f, ↓CG_rng, ↓CG_seq, ↓CG_enum, ↓CG_zip, ↓CG_str, ↓CG_seqR, ↓CG_enumR, ↓W_var, ↓W_cst, ↓W_glob, ↓W_bin, ↓W_cmp, ↓W_ix, ↓W_un, ↓W_blt, ↓W_blt2, ↓W_isi, ↓W_bits, ↓W_idx, ↓W_find, ↓W_pop, ↓W_dnew, ↓W_dix, ↓W_din, ↓W_sset, ↓D_sset, ↓W_lrg1, ↓W_lrg2, ↓W_dput, ↓StW_s, ↓ViW_i, ↓VaW_v, ↓SlW_d, ↓bh_nd, ↓OdW_s, ↓LnW_o, ↓LnW_d, ↓D_pop, ↓D_dixI, ↓D_dixS, ↓D_dinI, ↓D_dinS, ↓D_dputI, ↓D_dputS, ↓D_find, ↓D_lrg, ↓W_enum, ↓W_zip, ↓W_istr, ↓lstP_l, ↓lstP_s, ↓lstP_n, ↓lstQ_l, ↓W_revl, ↓W_revs, ↓W_sl, ↓W_bind, ↓W_partT, ↓W_partF, ↓PaW_i, ↓D_list, ↓D_tuple, ↓D_sum, ↓D_sorted, ↓D_maxl, ↓D_minl, ↓D_str, ↓D_bits, ↓D_revS, ↓D_revL, ↓D_revN, ↓seq_t, ↓seq_l, ↓seq_s, ↓seq_n, ↓seq_b, ↓seq_o, ↓ints_n, ↓ints_l, ↓inta_n, ↓inta_l, ↓inta_t, ↓W_exi, ↓W_chain, ↓W_not, ↓W_and, ↓W_or, ↓W_ife, ↓W_tup, ↓W_lst, ↓W_call, ↓W_frz, ↓W_mkbox, ↓W_app, ↓W_enil, ↓W_econs, ↓W_rng1, ↓W_rng2, ↓W_seq, ↓W_asg, ↓W_asgO, ↓W_asgT, ↓W_aug, ↓W_setix, ↓W_expr, ↓W_ret, ↓W_retN, ↓W_pass, ↓W_brk, ↓W_cont, ↓W_raise, ↓W_if, ↓W_for, ↓W_nil, ↓W_cons, ↓W_try, ↓W_ok, ↓W_exc, ↓WC_ok, ↓WC_exc, ↓WK_ok, ↓WK_exc, ↓TW_b, ↓DW_v, ↓DW_n, ↓IT_t, ↓IT_f, ↓IT_dt, ↓IT_df, IT_d, ↓IT_e1, ↓IT_e2, ↓IT_e3, ↓IT_e4, ↓IT_n, ↓IT_a, ↓SlW_v, ↓SlW_o, ↓OW_s, ↓FW_nx, ↓FW_rt, ↓FW_bk, ↓FW_ct, ↓RW_v, ↓RW_n, ↓RW_o, ↓bh_v, ↓bh_n, ↓bh_o, ↓Gam_glob, ↓D_add, ↓D_sub, ↓D_mul, ↓D_fdiv, ↓D_mod, ↓D_band, ↓D_bor, ↓D_bxor, ↓D_shl, ↓D_shr, ↓D_lt, ↓D_le, ↓D_gt, ↓D_ge, ↓D_eqi, ↓D_nei, ↓D_eqb, ↓D_eqll, ↓D_nell, ↓D_eqnn, ↓D_nenn, ↓D_eqnl, ↓D_nenl, ↓D_eqln, ↓D_neln, ↓D_eqtt, ↓D_nett, ↓D_ill, ↓D_itt, ↓D_neb, ↓D_isN, ↓D_inN, ↓D_isi1, ↓D_ini1, ↓D_ist1, ↓D_int1, ↓D_isl1, ↓D_inl1, ↓D_isn1, ↓D_inn1, ↓D_isb1, ↓D_inb1, ↓D_neg, ↓D_abs, ↓D_int, ↓D_intb, ↓D_lenT, ↓D_lenL, ↓D_lenS, ↓D_lenN, ↓D_lenB, ↓D_lenO, ↓D_max, ↓D_min, ↓D_ixT, ↓D_ixL, ↓D_ixS, ↓D_ixN, ↓D_ixB, ↓D_ixO, ↓D_setB, ↓D_setO, ↓D_appO, ↓D_lof, ↓D_catNN, ↓D_catNL, ↓D_catLN, ↓D_catLL, ↓D_ii, ↓D_ib, ↓D_bi, ↓D_bb, ↓BW_s, ↓OnW_s, ↓OnB_s, ↓VW_rv, ↓VW_rn, ↓VW_nx, ↓RV_rv, ↓at0, ↓at1, ↓at2, ↓at3, ↓Au_add, ↓Au_sub, ↓Au_bor, ↓Au_mul, ↓sT0, ↓sTS, ↓I1W_i, ↓I2W_i, ↓I3W_l, ↓I3W_s, ↓I3W_t, ↓I3W_n, ↓stepQ_nx, ↓stepQ_ct, ↓stepQ_bk, ↓stepQ_rt, ↓sE, ↓eg0, ↓egS, ↓st0, ↓stS, ↓true_and, ↓and_true, ↓eq_self, ↓isF_v, ↓isF_n, ↓decide_true, ↓decide_false, ↓Bool.not_true, ↓Bool.not_false, List.set_cons_zero, List.set_cons_succ, e0]
    · have hs := lastI_some Cl.isBid cs h
      cases hs with
      | intro m hs =>
      have hm := at_neg1 _ _ hs.2.2.1
      have hlen : 0 < (plN Cl.isBid cs).length := List.length_pos_iff.2 h
      have ln := natsD_len (plN Cl.isBid cs)
      rw [hs.2.1]
      simp -implicitDefEqProofs -dsimp (disch := omega) only [List.map, List.length, List.replicate, List.cons_append, List.nil_append, ↓W_dt, ↓W_fld, ↓W_meth, ↓W_make, ↓MkW_n, ↓W_popl, ↓W_setf, ↓W_augx, ↓W_asgM, ↓Gam_ncl, ↓EnW_l, ↓EnW_s, ↓EnW_n, ↓EnW_f, ↓EnW_b, ↓LG_rng, ↓LG_seq, ↓LG_enum, ↓LG_zip, ↓LG_str, ↓LG_seqR, ↓LG_enumR, ↓I3W_f, ↓I3W_b, ↓InW_s, ↓FdW_v, ↓FdW_o, ↓FdW_d, ↓InB_s, ↓D_fld, ↓D_meth, ↓D_setf, ↓SO_v, ↓SO_n, ↓SO_nf, ↓SO_d, ↓sq_f, ↓live_f, ↓live_b, ↓D_lenF, ↓D_ixF, ↓D_appF, ↓D_setF, ↓D_poplF, ↓D_lofF, ↓tp0, ↓tpS, ↓bh_f, ↓CG_rng, ↓CG_seq, ↓CG_enum, ↓CG_zip, ↓CG_str, ↓CG_seqR, ↓CG_enumR, ↓W_var, ↓W_cst, ↓W_glob, ↓W_bin, ↓W_cmp, ↓W_ix, ↓W_un, ↓W_blt, ↓W_blt2, ↓W_isi, ↓W_bits, ↓W_idx, ↓W_find, ↓W_pop, ↓W_dnew, ↓W_dix, ↓W_din, ↓W_sset, ↓D_sset, ↓W_lrg1, ↓W_lrg2, ↓W_dput, ↓StW_s, ↓ViW_i, ↓VaW_v, ↓SlW_d, ↓bh_nd, ↓OdW_s, ↓LnW_o, ↓LnW_d, ↓D_pop, ↓D_dixI, ↓D_dixS, ↓D_dinI, ↓D_dinS, ↓D_dputI, ↓D_dputS, ↓D_find, ↓D_lrg, ↓W_enum, ↓W_zip, ↓W_istr, ↓lstP_l, ↓lstP_s, ↓lstP_n, ↓lstQ_l, ↓W_revl, ↓W_revs, ↓W_sl, ↓W_bind, ↓W_partT, ↓W_partF, ↓PaW_i, ↓D_list, ↓D_tuple, ↓D_sum, ↓D_sorted, ↓D_maxl, ↓D_minl, ↓D_str, ↓D_bits, ↓D_revS, ↓D_revL, ↓D_revN, ↓seq_t, ↓seq_l, ↓seq_s, ↓seq_n, ↓seq_b, ↓seq_o, ↓ints_n, ↓ints_l, ↓inta_n, ↓inta_l, ↓inta_t, ↓W_exi, ↓W_chain, ↓W_not, ↓W_and, ↓W_or, ↓W_ife, ↓W_tup, ↓W_lst, ↓W_call, ↓W_frz, ↓W_mkbox, ↓W_app, ↓W_enil, ↓W_econs, ↓W_rng1, ↓W_rng2, ↓W_seq, ↓W_asg, ↓W_asgO, ↓W_asgT, ↓W_aug, ↓W_setix, ↓W_expr, ↓W_ret, ↓W_retN, ↓W_pass, ↓W_brk, ↓W_cont, ↓W_raise, ↓W_if, ↓W_for, ↓W_nil, ↓W_cons, ↓W_try, ↓W_ok, ↓W_exc, ↓WC_ok, ↓WC_exc, ↓WK_ok, ↓WK_exc, ↓TW_b, ↓DW_v, ↓DW_n, ↓IT_t, ↓IT_f, ↓IT_dt, ↓IT_df, IT_d, ↓IT_e1, ↓IT_e2, ↓IT_e3, ↓IT_e4, ↓IT_n, ↓IT_a, ↓SlW_v, ↓SlW_o, ↓OW_s, ↓FW_nx, ↓FW_rt, ↓FW_bk, ↓FW_ct, ↓RW_v, ↓RW_n, ↓RW_o, ↓bh_v, ↓bh_n, ↓bh_o, ↓Gam_glob, ↓D_add, ↓D_sub, ↓D_mul, ↓D_fdiv, ↓D_mod, ↓D_band, ↓D_bor, ↓D_bxor, ↓D_shl, ↓D_shr, ↓D_lt, ↓D_le, ↓D_gt, ↓D_ge, ↓D_eqi, ↓D_nei, ↓D_eqb, ↓D_eqll, ↓D_nell, ↓D_eqnn, ↓D_nenn, ↓D_eqnl, ↓D_nenl, ↓D_eqln, ↓D_neln, ↓D_eqtt, ↓D_nett, ↓D_ill, ↓D_itt, ↓D_neb, ↓D_isN, ↓D_inN, ↓D_isi1, ↓D_ini1, ↓D_ist1, ↓D_int1, ↓D_isl1, ↓D_inl1, ↓D_isn1, ↓D_inn1, ↓D_isb1, ↓D_inb1, ↓D_neg, ↓D_abs, ↓D_int, ↓D_intb, ↓D_lenT, ↓D_lenL, ↓D_lenS, ↓D_lenN, ↓D_lenB, ↓D_lenO, ↓D_max, ↓D_min, ↓D_ixT, ↓D_ixL, ↓D_ixS, ↓D_ixN, ↓D_ixB, ↓D_ixO, ↓D_setB, ↓D_setO, ↓D_appO, ↓D_lof, ↓D_catNN, ↓D_catNL, ↓D_catLN, ↓D_catLL, ↓D_ii, ↓D_ib, ↓D_bi, ↓D_bb, ↓BW_s, ↓OnW_s, ↓OnB_s, ↓VW_rv, ↓VW_rn, ↓VW_nx, ↓RV_rv, ↓at0, ↓at1, ↓at2, ↓at3, ↓Au_add, ↓Au_sub, ↓Au_bor, ↓Au_mul, ↓sT0, ↓sTS, ↓I1W_i, ↓I2W_i, ↓I3W_l, ↓I3W_s, ↓I3W_t, ↓I3W_n, ↓stepQ_nx, ↓stepQ_ct, ↓stepQ_bk, ↓stepQ_rt, ↓sE, ↓eg0, ↓egS, ↓st0, ↓stS, ↓true_and, ↓and_true, ↓eq_self, ↓isF_v, ↓isF_n, ↓decide_true, ↓decide_false, ↓Bool.not_true, ↓Bool.not_false, List.set_cons_zero, List.set_cons_succ, ln, hm]
/-- whether an auction is over -/
def auOver (cs : List Cl) : Bool := decide (4 ≤ (cs.length : Int) - 1 - lastI Cl.np cs) || (decide ((cs.length : Int) - 1 - lastI Cl.np cs = 3) && decide (0 ≤ lastI Cl.np cs))
theorem au_over (hk : 1 < k) (hT : T[n]? = some (.ins 0 (auF b d cs))) (hl : cs.length ≤ 1000) : run p k A.fo ro [.box n] T = .ok (.val (.bl (auOver cs))) T := by
  refine WC_eq (WC_run (by rw [A.ao]; rfl) A.ho (by omega) ?_)
  have hn := A.ncl
  have lc := clsD_len cs
  have z := au_last (k := k - 1) A ro (by omega) hT hl
  unfold auOver
  simp -implicitDefEqProofs -dsimp (disch := omega) only [bAuO, List.map, List.length, List.replicate, List.cons_append, List.nil_append, ↓W_dt, ↓W_fld, ↓W_meth, ↓W_make, ↓MkW_n, ↓W_popl, ↓W_setf, ↓W_augx, ↓W_asgM, ↓Gam_ncl, ↓EnW_l, ↓EnW_s, ↓EnW_n, ↓EnW_f, ↓EnW_b, ↓LG_rng, ↓LG_seq, ↓LG_enum, ↓LG_zip, ↓LG_str, ↓LG_seqR, ↓LG_enumR, ↓I3W_f, ↓I3W_b, ↓InW_s, ↓FdW_v, ↓FdW_o, ↓FdW_d, ↓InB_s, ↓D_fld, ↓D_meth, ↓D_setf, ↓SO_v, ↓SO_n, ↓SO_nf, ↓SO_d, ↓sq_f, ↓live_f, ↓live_b, ↓D_lenF, ↓D_ixF, ↓D_appF, ↓D_setF, ↓D_poplF, ↓D_lofF, ↓tp0, ↓tpS, ↓bh_f, ↓CG_rng, ↓CG_seq, ↓CG_enum, ↓CG_zip, ↓CG_str, ↓CG_seqR, ↓CG_enumR, ↓W_var, ↓W_cst, ↓W_glob, ↓W_bin, ↓W_cmp, ↓W_ix, ↓W_un, ↓W_blt, ↓W_blt2, ↓W_isi, ↓W_bits, ↓W_idx, ↓W_find, ↓W_pop, ↓W_dnew, ↓W_dix, ↓W_din, ↓W_sset, ↓D_sset, ↓W_lrg1, ↓W_lrg2, ↓W_dput, ↓StW_s, ↓ViW_i, ↓VaW_v, ↓SlW_d, ↓bh_nd, ↓OdW_s, ↓LnW_o, ↓LnW_d, ↓D_pop, ↓D_dixI, ↓D_dixS, ↓D_dinI, ↓D_dinS, ↓D_dputI, ↓D_dputS, ↓D_find, ↓D_lrg, ↓W_enum, ↓W_zip, ↓W_istr, ↓lstP_l, ↓lstP_s, ↓lstP_n, ↓lstQ_l, ↓W_revl, ↓W_revs, ↓W_sl, ↓W_bind, ↓W_partT, ↓W_partF, ↓PaW_i, ↓D_list, ↓D_tuple, ↓D_sum, ↓D_sorted, ↓D_maxl, ↓D_minl, ↓D_str, ↓D_bits, ↓D_revS, ↓D_revL, ↓D_revN, ↓seq_t, ↓seq_l, ↓seq_s, ↓seq_n, ↓seq_b, ↓seq_o, ↓ints_n, ↓ints_l, ↓inta_n, ↓inta_l, ↓inta_t, ↓W_exi, ↓W_chain, ↓W_not, ↓W_and, ↓W_or, ↓W_ife, ↓W_tup, ↓W_lst, ↓W_call, ↓W_frz, ↓W_mkbox, ↓W_app, ↓W_enil, ↓W_econs, ↓W_rng1, ↓W_rng2, ↓W_seq, ↓W_asg, ↓W_asgO, ↓W_asgT, ↓W_aug, ↓W_setix, ↓W_expr, ↓W_ret, ↓W_retN, ↓W_pass, ↓W_brk, ↓W_cont, ↓W_raise, ↓W_if, ↓W_for, ↓W_nil, ↓W_cons, ↓W_try, ↓W_ok, ↓W_exc, ↓WC_ok, ↓WC_exc, ↓WK_ok, ↓WK_exc, ↓TW_b, ↓DW_v, ↓DW_n, ↓IT_t, ↓IT_f, ↓IT_dt, ↓IT_df, IT_d, ↓IT_e1, ↓IT_e2, ↓IT_e3, ↓IT_e4, ↓IT_n, ↓IT_a, ↓SlW_v, ↓SlW_o, ↓OW_s, ↓FW_nx, ↓FW_rt, ↓FW_bk, ↓FW_ct, ↓RW_v, ↓RW_n, ↓RW_o, ↓bh_v, ↓bh_n, ↓bh_o, ↓Gam_glob, ↓D_add, ↓D_sub, ↓D_mul, ↓D_fdiv, ↓D_mod, ↓D_band, ↓D_bor, ↓D_bxor, ↓D_shl, ↓D_shr, ↓D_lt, ↓D_le, ↓D_gt, ↓D_ge, ↓D_eqi, ↓D_nei, ↓D_eqb, ↓D_eqll, ↓D_nell, ↓D_eqnn, ↓D_nenn, ↓D_eqnl, ↓D_nenl, ↓D_eqln, ↓D_neln, ↓D_eqtt, ↓D_nett, ↓D_ill, ↓D_itt, ↓D_neb, ↓D_isN, ↓D_inN, ↓D_isi1, ↓D_ini1, ↓D_ist1, ↓D_int1, ↓D_isl1, ↓D_inl1, ↓D_isn1, ↓D_inn1, ↓D_isb1, ↓D_inb1, ↓D_neg, ↓D_abs, ↓D_int, ↓D_intb, ↓D_lenT, ↓D_lenL, ↓D_lenS, ↓D_lenN, ↓D_lenB, ↓D_lenO, ↓D_max, ↓D_min, ↓D_ixT, ↓D_ixL, ↓D_ixS, ↓D_ixN, ↓D_ixB, ↓D_ixO, ↓D_setB, ↓D_setO, ↓D_appO, ↓D_lof, ↓D_catNN, ↓D_catNL, ↓D_catLN, ↓D_catLL, ↓D_ii, ↓D_ib, ↓D_bi, ↓D_bb, ↓BW_s, ↓OnW_s, ↓OnB_s, ↓VW_rv, ↓VW_rn, ↓VW_nx, ↓RV_rv, ↓at0, ↓at1, ↓at2, ↓at3, ↓Au_add, ↓Au_sub, ↓Au_bor, ↓Au_mul, ↓sT0, ↓sTS, ↓I1W_i, ↓I2W_i, ↓I3W_l, ↓I3W_s, ↓I3W_t, ↓I3W_n, ↓stepQ_nx, ↓stepQ_ct, ↓stepQ_bk, ↓stepQ_rt, ↓sE, ↓eg0, ↓egS, ↓st0, ↓stS, ↓true_and, ↓and_true, ↓eq_self, ↓isF_v, ↓isF_n, ↓decide_true, ↓decide_false, ↓Bool.not_true, ↓Bool.not_false, List.set_cons_zero, List.set_cons_succ, hT, au_c, au_m4, A.ml, lc, z]
  generalize (cs.length : Int) - 1 - lastI Cl.np cs = t
  refine ⟨hn, hn, fun h => ?_, fun h => ?_⟩
  · rw [decide_eq_true h]; rfl
  · rw [decide_eq_false h]
    refine ⟨fun h2 => ?_, fun h2 => ?_⟩
    · rw [decide_eq_true h2]; exact ⟨hn, rfl⟩
    · rw [decide_eq_false h2]; rfl
end
theorem cls_idx (st : Sta) (b : List Cl) (c : Cl) (h : c ∈ b) (P : Hd → Prop) : OW (idxD st (.val (.lst (clsD b))) (.val c.dt)) P = P (.val (.int (b.findIdx fun z => decide (z = c)))) := by
  have e1 : idxF st (.val (.lst (clsD b))) (.val c.dt) = none := by cases c <;> rfl
  have e2 : idxP st (.val (.lst (clsD b))) (.val c.dt) = some (b.findIdx fun z => decide (z = c)) := by
    unfold idxP
    rw [cls_pyOf (cs := b) rfl, cl_pyOf]
    simp only [cls_sh, cl_sh, Bool.and_self, if_true]
    rw [List.findIdx?_map]
    have e3 : ((fun z => PyData.eqv z c.py) ∘ Cl.py) = fun z => decide (z = c) := by funext z; exact cl_eqv z c
    rw [e3]
    have hx : ∃ x, x ∈ b ∧ (decide (x = c)) = true := ⟨c, h, decide_eq_true rfl⟩
    exact List.findIdx?_eq_some_of_exists hx
  unfold idxD
  rw [e1, e2]
  rfl
theorem cls_in (st : Sta) (c : Cl) (cs : List Cl) (y : Hd) (h : seqOf st y = some (true, clsD cs)) (hy : ∀ z, y ≠ .val (.str z)) : inD st (.val c.dt) y = some (decide (c ∈ cs)) := by
  have e1 : inFlat st (.val c.dt) y = none := by
    unfold inFlat
    rw [h]
    cases c <;> rfl
  have e2 : inData st (.val c.dt) y = some (decide (c ∈ cs)) := by
    unfold inData
    rw [cl_pyOf, cls_pyOf h]
    simp only [cls_sh, cl_sh, Bool.and_self, if_true]
    congr 1
    rw [List.any_map, Bool.eq_iff_iff]
    simp only [List.any_eq_true, Function.comp, cl_eqv, decide_eq_true_eq]
    exact ⟨fun ⟨x, h1, h2⟩ => h2 ▸ h1, fun h => ⟨c, h, rfl⟩⟩
  unfold inD
  split
  · rename_i z
    exact absurd rfl (hy z)
  · rw [e1]; exact e2
theorem D_notinC (st : Sta) (c : Cl) (cs : List Cl) (P : Hd → Prop) : OW (cmpD .notin st (.val c.dt) (.new (clsD cs))) P = P (.val (.bl (!decide (c ∈ cs)))) := by
  show OW ((inD st _ _).map _) P = _
  rw [cls_in st c cs _ rfl (by intro z h; cases h)]; rfl
theorem D_notinCv (st : Sta) (c : Cl) (cs : List Cl) (P : Hd → Prop) : OW (cmpD .notin st (.val c.dt) (.val (.lst (clsD cs)))) P = P (.val (.bl (!decide (c ∈ cs)))) := by
  show OW ((inD st _ _).map _) P = _
  rw [cls_in st c cs _ rfl (by intro z h; cases h)]; rfl
theorem isL_l (st : Sta) (ds : List Dt) : isLst st (.val (.lst ds)) = true := rfl
theorem D_catON (env : List Sl) (T : List Ob) (ro : Bool) (n : Nat) (es : List Dt) (P : Hd → Prop) : OW (binD .add ⟨env, T, ro⟩ (.own n) (.new es)) P = OnW env[n]? (fun ds => ds.length + es.length ≤ sizeLine ∧ P (.new (ds ++ es))) := by
  show OW (match (match (match env[n]? with | some (.own ds) => some (true, ds) | _ => none) with | some (true, ds) => some ds | _ => none), some es with | some xs, some ys => if xs.length + ys.length ≤ sizeLine then some (Hd.new (xs ++ ys)) else none | _, _ => none) P = _
  generalize env[n]? = o
  match o with
  | some (.own ds) => exact OW_ite _ _ _
  | none | some (.val _) | some .none | some (.ownd _) | some (.exn _) => rfl
def lowN (b cs : List Cl) : Nat := match (plN Cl.isBid cs).getLast? with
  | some k => (b.findIdx fun z => decide (z = cs.getD k .pass)) + 1
  | none => 0
def dblN (cs : List Cl) : List Cl := match (plN Cl.np cs).getLast? with
  | some k => if (cs.length - k) % 2 = 1 then (if (cs.getD k .pass).isBid then [.dbl] else []) ++ (if cs.getD k .pass = .dbl then [.rdb] else []) else []
  | none => []
def legalN (b cs : List Cl) : List Cl := if auOver cs then [] else .pass :: dblN cs ++ b.drop (lowN b cs)
/-- all bids of a list are bids -/
def Bds (b cs : List Cl) : Prop := ∀ c ∈ cs, c.isBid = true → c ∈ b
section
variable {p : Prg} (A : AuP p) {k : Nat} {T : List Ob} {n : Nat} {b : List Cl} {d : Nat} {cs : List Cl} (ro : Bool)
include A in
theorem au_g1 (hk : 1 < k) (hT : T[n]? = some (.ins 0 (auF b d cs))) (hl : cs.length ≤ 1000) (hb : b.length ≤ 1000) (hB : Bds b cs) (s1 s3 s4 : Sl) (F : List Cl) (hF : F.length ≤ 10) :
    W (evSs (Gam p (k - 1)) bAuG1 ⟨[.val (.box n), s1, .own (clsD F), s3, s4], T, ro⟩) (VW fun h T' => h = .new (clsD (F ++ b.drop (lowN b cs))) ∧ T' = T) (fun _ _ => False) := by
  have zl : sizeLine = 16777216 := rfl
  have hn := A.ncl
  have z := au_lastb (k := k - 1) A ro (by omega) hT hl
  have lb := clsD_len b
  have lF := clsD_len F
  have ld : (clsD (b.drop (lowN b cs))).length ≤ 1000 := by rw [clsD_len, List.length_drop]; omega
  by_cases h : plN Cl.isBid cs = []
  · have e0 : lowN b cs = 0 := by unfold lowN; rw [h]; rfl
    rw [e0] at ld ⊢
    have e1 := cut_drop (clsD b) 0
    rw [show ((0 : Nat) : Int) = 0 from rfl] at e1
    rw [lastI_none _ _ h] at z
    simp -implicitDefEqProofs -dsimp (disch := omega) only [bAuG1, List.map, List.length, List.replicate, List.cons_append, List.nil_append, ↓W_dt, ↓W_fld, ↓W_meth, ↓W_make, ↓MkW_n, ↓W_popl, ↓W_setf, ↓W_augx, ↓W_asgM, ↓Gam_ncl, ↓EnW_l, ↓EnW_s, ↓EnW_n, ↓EnW_f, ↓EnW_b, ↓LG_rng, ↓LG_seq, ↓LG_enum, ↓LG_zip, ↓LG_str, ↓LG_seqR, ↓LG_enumR, ↓I3W_f, ↓I3W_b, ↓InW_s, ↓FdW_v, ↓FdW_o, ↓FdW_d, ↓InB_s, ↓D_fld, ↓D_meth, ↓D_setf, ↓SO_v, ↓SO_n, ↓SO_nf, ↓SO_d, ↓sq_f, ↓live_f, ↓live_b, ↓D_lenF, ↓D_ixF, ↓D_appF, ↓D_setF, ↓D_poplF, ↓D_lofF, ↓tp0, ↓tpS, ↓bh_f, ↓CG_rng, ↓CG_seq, ↓CG_enum, ↓CG_zip, ↓CG_str, ↓CG_seqR, ↓CG_enumR, ↓W_var, ↓W_cst, ↓W_glob, ↓W_bin, ↓W_cmp, ↓W_ix, ↓W_un, ↓W_blt, ↓W_blt2, ↓W_isi, ↓W_bits, ↓W_idx, ↓W_find, ↓W_pop, ↓W_dnew, ↓W_dix, ↓W_din, ↓W_sset, ↓D_sset, ↓W_lrg1, ↓W_lrg2, ↓W_dput, ↓StW_s, ↓ViW_i, ↓VaW_v, ↓SlW_d, ↓bh_nd, ↓OdW_s, ↓LnW_o, ↓LnW_d, ↓D_pop, ↓D_dixI, ↓D_dixS, ↓D_dinI, ↓D_dinS, ↓D_dputI, ↓D_dputS, ↓D_find, ↓D_lrg, ↓W_enum, ↓W_zip, ↓W_istr, ↓lstP_l, ↓lstP_s, ↓lstP_n, ↓lstQ_l, ↓W_revl, ↓W_revs, ↓W_sl, ↓W_bind, ↓W_partT, ↓W_partF, ↓PaW_i, ↓D_list, ↓D_tuple, ↓D_sum, ↓D_sorted, ↓D_maxl, ↓D_minl, ↓D_str, ↓D_bits, ↓D_revS, ↓D_revL, ↓D_revN, ↓seq_t, ↓seq_l, ↓seq_s, ↓seq_n, ↓seq_b, ↓seq_o, ↓ints_n, ↓ints_l, ↓inta_n, ↓inta_l, ↓inta_t, ↓W_exi, ↓W_chain, ↓W_not, ↓W_and, ↓W_or, ↓W_ife, ↓W_tup, ↓W_lst, ↓W_call, ↓W_frz, ↓W_mkbox, ↓W_app, ↓W_enil, ↓W_econs, ↓W_rng1, ↓W_rng2, ↓W_seq, ↓W_asg, ↓W_asgO, ↓W_asgT, ↓W_aug, ↓W_setix, ↓W_expr, ↓W_ret, ↓W_retN, ↓W_pass, ↓W_brk, ↓W_cont, ↓W_raise, ↓W_if, ↓W_for, ↓W_nil, ↓W_cons, ↓W_try, ↓W_ok, ↓W_exc, ↓WC_ok, ↓WC_exc, ↓WK_ok, ↓WK_exc, ↓TW_b, ↓DW_v, ↓DW_n, ↓IT_t, ↓IT_f, ↓IT_dt, ↓IT_df, IT_d, ↓IT_e1, ↓IT_e2, ↓IT_e3, ↓IT_e4, ↓IT_n, ↓IT_a, ↓SlW_v, ↓SlW_o, ↓OW_s, ↓FW_nx, ↓FW_rt, ↓FW_bk, ↓FW_ct, ↓RW_v, ↓RW_n, ↓RW_o, ↓bh_v, ↓bh_n, ↓bh_o, ↓Gam_glob, ↓D_add, ↓D_sub, ↓D_mul, ↓D_fdiv, ↓D_mod, ↓D_band, ↓D_bor, ↓D_bxor, ↓D_shl, ↓D_shr, ↓D_lt, ↓D_le, ↓D_gt, ↓D_ge, ↓D_eqi, ↓D_nei, ↓D_eqb, ↓D_eqll, ↓D_nell, ↓D_eqnn, ↓D_nenn, ↓D_eqnl, ↓D_nenl, ↓D_eqln, ↓D_neln, ↓D_eqtt, ↓D_nett, ↓D_ill, ↓D_itt, ↓D_neb, ↓D_isN, ↓D_inN, ↓D_isi1, ↓D_ini1, ↓D_ist1, ↓D_int1, ↓D_isl1, ↓D_inl1, ↓D_isn1, ↓D_inn1, ↓D_isb1, ↓D_inb1, ↓D_neg, ↓D_abs, ↓D_int, ↓D_intb, ↓D_lenT, ↓D_lenL, ↓D_lenS, ↓D_lenN, ↓D_lenB, ↓D_lenO, ↓D_max, ↓D_min, ↓D_ixT, ↓D_ixL, ↓D_ixS, ↓D_ixN, ↓D_ixB, ↓D_ixO, ↓D_setB, ↓D_setO, ↓D_appO, ↓D_lof, ↓D_catNN, ↓D_catNL, ↓D_catLN, ↓D_catLL, ↓D_ii, ↓D_ib, ↓D_bi, ↓D_bb, ↓BW_s, ↓OnW_s, ↓OnB_s, ↓VW_rv, ↓VW_rn, ↓VW_nx, ↓RV_rv, ↓at0, ↓at1, ↓at2, ↓at3, ↓Au_add, ↓Au_sub, ↓Au_bor, ↓Au_mul, ↓sT0, ↓sTS, ↓I1W_i, ↓I2W_i, ↓I3W_l, ↓I3W_s, ↓I3W_t, ↓I3W_n, ↓stepQ_nx, ↓stepQ_ct, ↓stepQ_bk, ↓stepQ_rt, ↓sE, ↓eg0, ↓egS, ↓st0, ↓stS, ↓true_and, ↓and_true, ↓eq_self, ↓isF_v, ↓isF_n, ↓decide_true, ↓decide_false, ↓Bool.not_true, ↓Bool.not_false, List.set_cons_zero, List.set_cons_succ, hT, au_m5, A.mkb, z, au_b, au_c, ↓D_slL, e1, cls_drop, ↓D_catON, cls_app]
    rw [lF]
    exact ⟨hn, hn, by omega⟩
  · have hs := lastI_some Cl.isBid cs h
    cases hs with
    | intro m hs =>
    have hm := hs.1
    have hb2 : (cs.getD m .pass) ∈ b := hB _ (by rw [List.getD_eq_getElem?_getD, List.getElem?_eq_getElem hm]; exact List.getElem_mem hm) hs.2.2.2
    have e0 : lowN b cs = (b.findIdx fun z => decide (z = cs.getD m .pass)) + 1 := by unfold lowN; rw [hs.2.2.1]
    rw [hs.2.1] at z
    have hg := cls_get cs m hm
    have hi := fun st => cls_idx st b _ hb2
    rw [e0] at ld ⊢
    generalize (b.findIdx fun z => decide (z = cs.getD m .pass)) = y at hi ld
    have e2 : (y : Int) + 1 = ((y + 1 : Nat) : Int) := by omega
    have e1 := cut_drop (clsD b) (y + 1)
    simp -implicitDefEqProofs -dsimp (disch := omega) only [bAuG1, List.map, List.length, List.replicate, List.cons_append, List.nil_append, ↓W_dt, ↓W_fld, ↓W_meth, ↓W_make, ↓MkW_n, ↓W_popl, ↓W_setf, ↓W_augx, ↓W_asgM, ↓Gam_ncl, ↓EnW_l, ↓EnW_s, ↓EnW_n, ↓EnW_f, ↓EnW_b, ↓LG_rng, ↓LG_seq, ↓LG_enum, ↓LG_zip, ↓LG_str, ↓LG_seqR, ↓LG_enumR, ↓I3W_f, ↓I3W_b, ↓InW_s, ↓FdW_v, ↓FdW_o, ↓FdW_d, ↓InB_s, ↓D_fld, ↓D_meth, ↓D_setf, ↓SO_v, ↓SO_n, ↓SO_nf, ↓SO_d, ↓sq_f, ↓live_f, ↓live_b, ↓D_lenF, ↓D_ixF, ↓D_appF, ↓D_setF, ↓D_poplF, ↓D_lofF, ↓tp0, ↓tpS, ↓bh_f, ↓CG_rng, ↓CG_seq, ↓CG_enum, ↓CG_zip, ↓CG_str, ↓CG_seqR, ↓CG_enumR, ↓W_var, ↓W_cst, ↓W_glob, ↓W_bin, ↓W_cmp, ↓W_ix, ↓W_un, ↓W_blt, ↓W_blt2, ↓W_isi, ↓W_bits, ↓W_idx, ↓W_find, ↓W_pop, ↓W_dnew, ↓W_dix, ↓W_din, ↓W_sset, ↓D_sset, ↓W_lrg1, ↓W_lrg2, ↓W_dput, ↓StW_s, ↓ViW_i, ↓VaW_v, ↓SlW_d, ↓bh_nd, ↓OdW_s, ↓LnW_o, ↓LnW_d, ↓D_pop, ↓D_dixI, ↓D_dixS, ↓D_dinI, ↓D_dinS, ↓D_dputI, ↓D_dputS, ↓D_find, ↓D_lrg, ↓W_enum, ↓W_zip, ↓W_istr, ↓lstP_l, ↓lstP_s, ↓lstP_n, ↓lstQ_l, ↓W_revl, ↓W_revs, ↓W_sl, ↓W_bind, ↓W_partT, ↓W_partF, ↓PaW_i, ↓D_list, ↓D_tuple, ↓D_sum, ↓D_sorted, ↓D_maxl, ↓D_minl, ↓D_str, ↓D_bits, ↓D_revS, ↓D_revL, ↓D_revN, ↓seq_t, ↓seq_l, ↓seq_s, ↓seq_n, ↓seq_b, ↓seq_o, ↓ints_n, ↓ints_l, ↓inta_n, ↓inta_l, ↓inta_t, ↓W_exi, ↓W_chain, ↓W_not, ↓W_and, ↓W_or, ↓W_ife, ↓W_tup, ↓W_lst, ↓W_call, ↓W_frz, ↓W_mkbox, ↓W_app, ↓W_enil, ↓W_econs, ↓W_rng1, ↓W_rng2, ↓W_seq, ↓W_asg, ↓W_asgO, ↓W_asgT, ↓W_aug, ↓W_setix, ↓W_expr, ↓W_ret, ↓W_retN, ↓W_pass, ↓W_brk, ↓W_cont, ↓W_raise, ↓W_if, ↓W_for, ↓W_nil, ↓W_cons, ↓W_try, ↓W_ok, ↓W_exc, ↓WC_ok, ↓WC_exc, ↓WK_ok, ↓WK_exc, ↓TW_b, ↓DW_v, ↓DW_n, ↓IT_t, ↓IT_f, ↓IT_dt, ↓IT_df, IT_d, ↓IT_e1, ↓IT_e2, ↓IT_e3, ↓IT_e4, ↓IT_n, ↓IT_a, ↓SlW_v, ↓SlW_o, ↓OW_s, ↓FW_nx, ↓FW_rt, ↓FW_bk, ↓FW_ct, ↓RW_v, ↓RW_n, ↓RW_o, ↓bh_v, ↓bh_n, ↓bh_o, ↓Gam_glob, ↓D_add, ↓D_sub, ↓D_mul, ↓D_fdiv, ↓D_mod, ↓D_band, ↓D_bor, ↓D_bxor, ↓D_shl, ↓D_shr, ↓D_lt, ↓D_le, ↓D_gt, ↓D_ge, ↓D_eqi, ↓D_nei, ↓D_eqb, ↓D_eqll, ↓D_nell, ↓D_eqnn, ↓D_nenn, ↓D_eqnl, ↓D_nenl, ↓D_eqln, ↓D_neln, ↓D_eqtt, ↓D_nett, ↓D_ill, ↓D_itt, ↓D_neb, ↓D_isN, ↓D_inN, ↓D_isi1, ↓D_ini1, ↓D_ist1, ↓D_int1, ↓D_isl1, ↓D_inl1, ↓D_isn1, ↓D_inn1, ↓D_isb1, ↓D_inb1, ↓D_neg, ↓D_abs, ↓D_int, ↓D_intb, ↓D_lenT, ↓D_lenL, ↓D_lenS, ↓D_lenN, ↓D_lenB, ↓D_lenO, ↓D_max, ↓D_min, ↓D_ixT, ↓D_ixL, ↓D_ixS, ↓D_ixN, ↓D_ixB, ↓D_ixO, ↓D_setB, ↓D_setO, ↓D_appO, ↓D_lof, ↓D_catNN, ↓D_catNL, ↓D_catLN, ↓D_catLL, ↓D_ii, ↓D_ib, ↓D_bi, ↓D_bb, ↓BW_s, ↓OnW_s, ↓OnB_s, ↓VW_rv, ↓VW_rn, ↓VW_nx, ↓RV_rv, ↓at0, ↓at1, ↓at2, ↓at3, ↓Au_add, ↓Au_sub, ↓Au_bor, ↓Au_mul, ↓sT0, ↓sTS, ↓I1W_i, ↓I2W_i, ↓I3W_l, ↓I3W_s, ↓I3W_t, ↓I3W_n, ↓stepQ_nx, ↓stepQ_ct, ↓stepQ_bk, ↓stepQ_rt, ↓sE, ↓eg0, ↓egS, ↓st0, ↓stS, ↓true_and, ↓and_true, ↓eq_self, ↓isF_v, ↓isF_n, ↓decide_true, ↓decide_false, ↓Bool.not_true, ↓Bool.not_false, List.set_cons_zero, List.set_cons_succ, hT, au_m5, A.mkb, z, au_b, au_c, isL_l, hg, hi, e2, ↓D_slL, e1, cls_drop, ↓D_catON, cls_app]
    rw [lF]
    exact ⟨hn, hn, hn, hn, by omega⟩
include A in
theorem au_legal (hk : 3 < k) (hT : T[n]? = some (.ins 0 (auF b d cs))) (hl : cs.length ≤ 1000) (hb : b.length ≤ 1000) (hB : Bds b cs) : run p k A.fg ro [.box n] T = .ok (.new (clsD (legalN b cs))) T := by
  have zl : sizeLine = 16777216 := rfl
  have hn := A.ncl
  refine WC_eq (WC_run (by rw [A.ag]; rfl) A.hg (by omega) ?_)
  have zo := au_over (k := k - 1) A ro (by omega) hT hl
  cases ho : auOver cs with
  | true =>
    have el : legalN b cs = [] := by unfold legalN; rw [if_pos ho]
    rw [ho] at zo
    rw [el]
    simp -implicitDefEqProofs -dsimp (disch := omega) only [bAuG, bAuG6, List.map, List.length, List.replicate, List.cons_append, List.nil_append, ↓W_dt, ↓W_fld, ↓W_meth, ↓W_make, ↓MkW_n, ↓W_popl, ↓W_setf, ↓W_augx, ↓W_asgM, ↓Gam_ncl, ↓EnW_l, ↓EnW_s, ↓EnW_n, ↓EnW_f, ↓EnW_b, ↓LG_rng, ↓LG_seq, ↓LG_enum, ↓LG_zip, ↓LG_str, ↓LG_seqR, ↓LG_enumR, ↓I3W_f, ↓I3W_b, ↓InW_s, ↓FdW_v, ↓FdW_o, ↓FdW_d, ↓InB_s, ↓D_fld, ↓D_meth, ↓D_setf, ↓SO_v, ↓SO_n, ↓SO_nf, ↓SO_d, ↓sq_f, ↓live_f, ↓live_b, ↓D_lenF, ↓D_ixF, ↓D_appF, ↓D_setF, ↓D_poplF, ↓D_lofF, ↓tp0, ↓tpS, ↓bh_f, ↓CG_rng, ↓CG_seq, ↓CG_enum, ↓CG_zip, ↓CG_str, ↓CG_seqR, ↓CG_enumR, ↓W_var, ↓W_cst, ↓W_glob, ↓W_bin, ↓W_cmp, ↓W_ix, ↓W_un, ↓W_blt, ↓W_blt2, ↓W_isi, ↓W_bits, ↓W_idx, ↓W_find, ↓W_pop, ↓W_dnew, ↓W_dix, ↓W_din, ↓W_sset, ↓D_sset, ↓W_lrg1, ↓W_lrg2, ↓W_dput, ↓StW_s, ↓ViW_i, ↓VaW_v, ↓SlW_d, ↓bh_nd, ↓OdW_s, ↓LnW_o, ↓LnW_d, ↓D_pop, ↓D_dixI, ↓D_dixS, ↓D_dinI, ↓D_dinS, ↓D_dputI, ↓D_dputS, ↓D_find, ↓D_lrg, ↓W_enum, ↓W_zip, ↓W_istr, ↓lstP_l, ↓lstP_s, ↓lstP_n, ↓lstQ_l, ↓W_revl, ↓W_revs, ↓W_sl, ↓W_bind, ↓W_partT, ↓W_partF, ↓PaW_i, ↓D_list, ↓D_tuple, ↓D_sum, ↓D_sorted, ↓D_maxl, ↓D_minl, ↓D_str, ↓D_bits, ↓D_revS, ↓D_revL, ↓D_revN, ↓seq_t, ↓seq_l, ↓seq_s, ↓seq_n, ↓seq_b, ↓seq_o, ↓ints_n, ↓ints_l, ↓inta_n, ↓inta_l, ↓inta_t, ↓W_exi, ↓W_chain, ↓W_not, ↓W_and, ↓W_or, ↓W_ife, ↓W_tup, ↓W_lst, ↓W_call, ↓W_frz, ↓W_mkbox, ↓W_app, ↓W_enil, ↓W_econs, ↓W_rng1, ↓W_rng2, ↓W_seq, ↓W_asg, ↓W_asgO, ↓W_asgT, ↓W_aug, ↓W_setix, ↓W_expr, ↓W_ret, ↓W_retN, ↓W_pass, ↓W_brk, ↓W_cont, ↓W_raise, ↓W_if, ↓W_for, ↓W_nil, ↓W_cons, ↓W_try, ↓W_ok, ↓W_exc, ↓WC_ok, ↓WC_exc, ↓WK_ok, ↓WK_exc, ↓TW_b, ↓DW_v, ↓DW_n, ↓IT_t, ↓IT_f, ↓IT_dt, ↓IT_df, IT_d, ↓IT_e1, ↓IT_e2, ↓IT_e3, ↓IT_e4, ↓IT_n, ↓IT_a, ↓SlW_v, ↓SlW_o, ↓OW_s, ↓FW_nx, ↓FW_rt, ↓FW_bk, ↓FW_ct, ↓RW_v, ↓RW_n, ↓RW_o, ↓bh_v, ↓bh_n, ↓bh_o, ↓Gam_glob, ↓D_add, ↓D_sub, ↓D_mul, ↓D_fdiv, ↓D_mod, ↓D_band, ↓D_bor, ↓D_bxor, ↓D_shl, ↓D_shr, ↓D_lt, ↓D_le, ↓D_gt, ↓D_ge, ↓D_eqi, ↓D_nei, ↓D_eqb, ↓D_eqll, ↓D_nell, ↓D_eqnn, ↓D_nenn, ↓D_eqnl, ↓D_nenl, ↓D_eqln, ↓D_neln, ↓D_eqtt, ↓D_nett, ↓D_ill, ↓D_itt, ↓D_neb, ↓D_isN, ↓D_inN, ↓D_isi1, ↓D_ini1, ↓D_ist1, ↓D_int1, ↓D_isl1, ↓D_inl1, ↓D_isn1, ↓D_inn1, ↓D_isb1, ↓D_inb1, ↓D_neg, ↓D_abs, ↓D_int, ↓D_intb, ↓D_lenT, ↓D_lenL, ↓D_lenS, ↓D_lenN, ↓D_lenB, ↓D_lenO, ↓D_max, ↓D_min, ↓D_ixT, ↓D_ixL, ↓D_ixS, ↓D_ixN, ↓D_ixB, ↓D_ixO, ↓D_setB, ↓D_setO, ↓D_appO, ↓D_lof, ↓D_catNN, ↓D_catNL, ↓D_catLN, ↓D_catLL, ↓D_ii, ↓D_ib, ↓D_bi, ↓D_bb, ↓BW_s, ↓OnW_s, ↓OnB_s, ↓VW_rv, ↓VW_rn, ↓VW_nx, ↓RV_rv, ↓at0, ↓at1, ↓at2, ↓at3, ↓Au_add, ↓Au_sub, ↓Au_bor, ↓Au_mul, ↓sT0, ↓sTS, ↓I1W_i, ↓I2W_i, ↓I3W_l, ↓I3W_s, ↓I3W_t, ↓I3W_n, ↓stepQ_nx, ↓stepQ_ct, ↓stepQ_bk, ↓stepQ_rt, ↓sE, ↓eg0, ↓egS, ↓st0, ↓stS, ↓true_and, ↓and_true, ↓eq_self, ↓isF_v, ↓isF_n, ↓decide_true, ↓decide_false, ↓Bool.not_true, ↓Bool.not_false, List.set_cons_zero, List.set_cons_succ, hT, au_m6, A.mo, zo]
    exact ⟨hn, by omega, rfl⟩
  | false =>
    have el : legalN b cs = .pass :: dblN cs ++ b.drop (lowN b cs) := by unfold legalN; rw [if_neg (by rw [ho]; exact Bool.false_ne_true)]
    rw [ho] at zo
    have zla := au_last (k := k - 1) A ro (by omega) hT hl
    have zt := au_turn (k := k - 1) A ro (by omega) hT
    have zsi := fun x => side_run (k := k - 1) (T := T) A ro (by omega) x
    have lc1 : (List.length [Cl.pass.dt]) = 1 := rfl
    have fin := fun (F : List Cl) (hF : F.length ≤ 10) (h : .pass :: dblN cs = F) (s1 : Sl) => by
      have z := au_g1 (k := k) A ro (by omega) hT hl hb hB s1 .none .none F hF
      rw [← h] at z
      rw [← el] at z
      rw [h] at z
      exact z
    have fin1 := fin [.pass]
    have fin2 := fin [.pass, .dbl]
    have fin3 := fin [.pass, .rdb]
    have p1 : clsD [.pass] = [Cl.pass.dt] := rfl
    have p2 : clsD [.pass, .dbl] = [Cl.pass.dt, Cl.dbl.dt] := rfl
    have p3 : clsD [.pass, .rdb] = [Cl.pass.dt, Cl.rdb.dt] := rfl
    by_cases h : plN Cl.np cs = []
    · rw [lastI_none _ _ h] at zla
      have ed : dblN cs = [] := by unfold dblN; rw [h]; rfl
      have f1 := fin1 (by decide) (by rw [ed]) (.val (.int (-1)))
      rw [p1] at f1
      simp -implicitDefEqProofs -dsimp (disch := omega) only [bAuG, bAuG5, List.map, List.length, List.replicate, List.cons_append, List.nil_append, ↓W_dt, ↓W_fld, ↓W_meth, ↓W_make, ↓MkW_n, ↓W_popl, ↓W_setf, ↓W_augx, ↓W_asgM, ↓Gam_ncl, ↓EnW_l, ↓EnW_s, ↓EnW_n, ↓EnW_f, ↓EnW_b, ↓LG_rng, ↓LG_seq, ↓LG_enum, ↓LG_zip, ↓LG_str, ↓LG_seqR, ↓LG_enumR, ↓I3W_f, ↓I3W_b, ↓InW_s, ↓FdW_v, ↓FdW_o, ↓FdW_d, ↓InB_s, ↓D_fld, ↓D_meth, ↓D_setf, ↓SO_v, ↓SO_n, ↓SO_nf, ↓SO_d, ↓sq_f, ↓live_f, ↓live_b, ↓D_lenF, ↓D_ixF, ↓D_appF, ↓D_setF, ↓D_poplF, ↓D_lofF, ↓tp0, ↓tpS, ↓bh_f, ↓CG_rng, ↓CG_seq, ↓CG_enum, ↓CG_zip, ↓CG_str, ↓CG_seqR, ↓CG_enumR, ↓W_var, ↓W_cst, ↓W_glob, ↓W_bin, ↓W_cmp, ↓W_ix, ↓W_un, ↓W_blt, ↓W_blt2, ↓W_isi, ↓W_bits, ↓W_idx, ↓W_find, ↓W_pop, ↓W_dnew, ↓W_dix, ↓W_din, ↓W_sset, ↓D_sset, ↓W_lrg1, ↓W_lrg2, ↓W_dput, ↓StW_s, ↓ViW_i, ↓VaW_v, ↓SlW_d, ↓bh_nd, ↓OdW_s, ↓LnW_o, ↓LnW_d, ↓D_pop, ↓D_dixI, ↓D_dixS, ↓D_dinI, ↓D_dinS, ↓D_dputI, ↓D_dputS, ↓D_find, ↓D_lrg, ↓W_enum, ↓W_zip, ↓W_istr, ↓lstP_l, ↓lstP_s, ↓lstP_n, ↓lstQ_l, ↓W_revl, ↓W_revs, ↓W_sl, ↓W_bind, ↓W_partT, ↓W_partF, ↓PaW_i, ↓D_list, ↓D_tuple, ↓D_sum, ↓D_sorted, ↓D_maxl, ↓D_minl, ↓D_str, ↓D_bits, ↓D_revS, ↓D_revL, ↓D_revN, ↓seq_t, ↓seq_l, ↓seq_s, ↓seq_n, ↓seq_b, ↓seq_o, ↓ints_n, ↓ints_l, ↓inta_n, ↓inta_l, ↓inta_t, ↓W_exi, ↓W_chain, ↓W_not, ↓W_and, ↓W_or, ↓W_ife, ↓W_tup, ↓W_lst, ↓W_call, ↓W_frz, ↓W_mkbox, ↓W_app, ↓W_enil, ↓W_econs, ↓W_rng1, ↓W_rng2, ↓W_seq, ↓W_asg, ↓W_asgO, ↓W_asgT, ↓W_aug, ↓W_setix, ↓W_expr, ↓W_ret, ↓W_retN, ↓W_pass, ↓W_brk, ↓W_cont, ↓W_raise, ↓W_if, ↓W_for, ↓W_nil, ↓W_cons, ↓W_try, ↓W_ok, ↓W_exc, ↓WC_ok, ↓WC_exc, ↓WK_ok, ↓WK_exc, ↓TW_b, ↓DW_v, ↓DW_n, ↓IT_t, ↓IT_f, ↓IT_dt, ↓IT_df, IT_d, ↓IT_e1, ↓IT_e2, ↓IT_e3, ↓IT_e4, ↓IT_n, ↓IT_a, ↓SlW_v, ↓SlW_o, ↓OW_s, ↓FW_nx, ↓FW_rt, ↓FW_bk, ↓FW_ct, ↓RW_v, ↓RW_n, ↓RW_o, ↓bh_v, ↓bh_n, ↓bh_o, ↓Gam_glob, ↓D_add, ↓D_sub, ↓D_mul, ↓D_fdiv, ↓D_mod, ↓D_band, ↓D_bor, ↓D_bxor, ↓D_shl, ↓D_shr, ↓D_lt, ↓D_le, ↓D_gt, ↓D_ge, ↓D_eqi, ↓D_nei, ↓D_eqb, ↓D_eqll, ↓D_nell, ↓D_eqnn, ↓D_nenn, ↓D_eqnl, ↓D_nenl, ↓D_eqln, ↓D_neln, ↓D_eqtt, ↓D_nett, ↓D_ill, ↓D_itt, ↓D_neb, ↓D_isN, ↓D_inN, ↓D_isi1, ↓D_ini1, ↓D_ist1, ↓D_int1, ↓D_isl1, ↓D_inl1, ↓D_isn1, ↓D_inn1, ↓D_isb1, ↓D_inb1, ↓D_neg, ↓D_abs, ↓D_int, ↓D_intb, ↓D_lenT, ↓D_lenL, ↓D_lenS, ↓D_lenN, ↓D_lenB, ↓D_lenO, ↓D_max, ↓D_min, ↓D_ixT, ↓D_ixL, ↓D_ixS, ↓D_ixN, ↓D_ixB, ↓D_ixO, ↓D_setB, ↓D_setO, ↓D_appO, ↓D_lof, ↓D_catNN, ↓D_catNL, ↓D_catLN, ↓D_catLL, ↓D_ii, ↓D_ib, ↓D_bi, ↓D_bb, ↓BW_s, ↓OnW_s, ↓OnB_s, ↓VW_rv, ↓VW_rn, ↓VW_nx, ↓RV_rv, ↓at0, ↓at1, ↓at2, ↓at3, ↓Au_add, ↓Au_sub, ↓Au_bor, ↓Au_mul, ↓sT0, ↓sTS, ↓I1W_i, ↓I2W_i, ↓I3W_l, ↓I3W_s, ↓I3W_t, ↓I3W_n, ↓stepQ_nx, ↓stepQ_ct, ↓stepQ_bk, ↓stepQ_rt, ↓sE, ↓eg0, ↓egS, ↓st0, ↓stS, ↓true_and, ↓and_true, ↓eq_self, ↓isF_v, ↓isF_n, ↓decide_true, ↓decide_false, ↓Bool.not_true, ↓Bool.not_false, List.set_cons_zero, List.set_cons_succ, hT, au_m6, au_m4, A.mo, A.ml, zo, zla, A.qp]
      exact ⟨hn, hn, by omega, by decide, f1⟩
    · have hs := lastI_some Cl.np cs h
      cases hs with
      | intro m hs =>
      have hm := hs.1
      rw [hs.2.1] at zla
      have zp := au_play (k := k - 1) A ro (by omega) hT m
      have hg := cls_get cs m hm
      have ed : dblN cs = if (cs.length - m) % 2 = 1 then (if (cs.getD m .pass).isBid then [.dbl] else []) ++ (if cs.getD m .pass = .dbl then [.rdb] else []) else [] := by unfold dblN; rw [hs.2.2.1]
      by_cases hp : (cs.length - m) % 2 = 1
      · rw [if_pos hp] at ed
        have hne : ¬ (((d + m) % 4 % 2 : Nat) : Int) = (((d + cs.length) % 4 % 2 : Nat) : Int) := by omega
        cases hc : cs.getD m .pass with
        | pass =>
          have z := hs.2.2.2
          rw [hc] at z
          cases z
        | bid l s =>
          rw [hc] at ed hg
          have f1 := fin2 (by decide) (by rw [ed]; rfl) (.val (.int m))
          rw [p2] at f1
          have ew : (Cl.bid l s).isBid = true := rfl
          simp -implicitDefEqProofs -dsimp (disch := omega) only [bAuG, bAuG5, bAuG4, bAuG3, bAuG2, List.map, List.length, List.replicate, List.cons_append, List.nil_append, ↓W_dt, ↓W_fld, ↓W_meth, ↓W_make, ↓MkW_n, ↓W_popl, ↓W_setf, ↓W_augx, ↓W_asgM, ↓Gam_ncl, ↓EnW_l, ↓EnW_s, ↓EnW_n, ↓EnW_f, ↓EnW_b, ↓LG_rng, ↓LG_seq, ↓LG_enum, ↓LG_zip, ↓LG_str, ↓LG_seqR, ↓LG_enumR, ↓I3W_f, ↓I3W_b, ↓InW_s, ↓FdW_v, ↓FdW_o, ↓FdW_d, ↓InB_s, ↓D_fld, ↓D_meth, ↓D_setf, ↓SO_v, ↓SO_n, ↓SO_nf, ↓SO_d, ↓sq_f, ↓live_f, ↓live_b, ↓D_lenF, ↓D_ixF, ↓D_appF, ↓D_setF, ↓D_poplF, ↓D_lofF, ↓tp0, ↓tpS, ↓bh_f, ↓CG_rng, ↓CG_seq, ↓CG_enum, ↓CG_zip, ↓CG_str, ↓CG_seqR, ↓CG_enumR, ↓W_var, ↓W_cst, ↓W_glob, ↓W_bin, ↓W_cmp, ↓W_ix, ↓W_un, ↓W_blt, ↓W_blt2, ↓W_isi, ↓W_bits, ↓W_idx, ↓W_find, ↓W_pop, ↓W_dnew, ↓W_dix, ↓W_din, ↓W_sset, ↓D_sset, ↓W_lrg1, ↓W_lrg2, ↓W_dput, ↓StW_s, ↓ViW_i, ↓VaW_v, ↓SlW_d, ↓bh_nd, ↓OdW_s, ↓LnW_o, ↓LnW_d, ↓D_pop, ↓D_dixI, ↓D_dixS, ↓D_dinI, ↓D_dinS, ↓D_dputI, ↓D_dputS, ↓D_find, ↓D_lrg, ↓W_enum, ↓W_zip, ↓W_istr, ↓lstP_l, ↓lstP_s, ↓lstP_n, ↓lstQ_l, ↓W_revl, ↓W_revs, ↓W_sl, ↓W_bind, ↓W_partT, ↓W_partF, ↓PaW_i, ↓D_list, ↓D_tuple, ↓D_sum, ↓D_sorted, ↓D_maxl, ↓D_minl, ↓D_str, ↓D_bits, ↓D_revS, ↓D_revL, ↓D_revN, ↓seq_t, ↓seq_l, ↓seq_s, ↓seq_n, ↓seq_b, ↓seq_o, ↓ints_n, ↓ints_l, ↓inta_n, ↓inta_l, ↓inta_t, ↓W_exi, ↓W_chain, ↓W_not, ↓W_and, ↓W_or, ↓W_ife, ↓W_tup, ↓W_lst, ↓W_call, ↓W_frz, ↓W_mkbox, ↓W_app, ↓W_enil, ↓W_econs, ↓W_rng1, ↓W_rng2, ↓W_seq, ↓W_asg, ↓W_asgO, ↓W_asgT, ↓W_aug, ↓W_setix, ↓W_expr, ↓W_ret, ↓W_retN, ↓W_pass, ↓W_brk, ↓W_cont, ↓W_raise, ↓W_if, ↓W_for, ↓W_nil, ↓W_cons, ↓W_try, ↓W_ok, ↓W_exc, ↓WC_ok, ↓WC_exc, ↓WK_ok, ↓WK_exc, ↓TW_b, ↓DW_v, ↓DW_n, ↓IT_t, ↓IT_f, ↓IT_dt, ↓IT_df, IT_d, ↓IT_e1, ↓IT_e2, ↓IT_e3, ↓IT_e4, ↓IT_n, ↓IT_a, ↓SlW_v, ↓SlW_o, ↓OW_s, ↓FW_nx, ↓FW_rt, ↓FW_bk, ↓FW_ct, ↓RW_v, ↓RW_n, ↓RW_o, ↓bh_v, ↓bh_n, ↓bh_o, ↓Gam_glob, ↓D_add, ↓D_sub, ↓D_mul, ↓D_fdiv, ↓D_mod, ↓D_band, ↓D_bor, ↓D_bxor, ↓D_shl, ↓D_shr, ↓D_lt, ↓D_le, ↓D_gt, ↓D_ge, ↓D_eqi, ↓D_nei, ↓D_eqb, ↓D_eqll, ↓D_nell, ↓D_eqnn, ↓D_nenn, ↓D_eqnl, ↓D_nenl, ↓D_eqln, ↓D_neln, ↓D_eqtt, ↓D_nett, ↓D_ill, ↓D_itt, ↓D_neb, ↓D_isN, ↓D_inN, ↓D_isi1, ↓D_ini1, ↓D_ist1, ↓D_int1, ↓D_isl1, ↓D_inl1, ↓D_isn1, ↓D_inn1, ↓D_isb1, ↓D_inb1, ↓D_neg, ↓D_abs, ↓D_int, ↓D_intb, ↓D_lenT, ↓D_lenL, ↓D_lenS, ↓D_lenN, ↓D_lenB, ↓D_lenO, ↓D_max, ↓D_min, ↓D_ixT, ↓D_ixL, ↓D_ixS, ↓D_ixN, ↓D_ixB, ↓D_ixO, ↓D_setB, ↓D_setO, ↓D_appO, ↓D_lof, ↓D_catNN, ↓D_catNL, ↓D_catLN, ↓D_catLL, ↓D_ii, ↓D_ib, ↓D_bi, ↓D_bb, ↓BW_s, ↓OnW_s, ↓OnB_s, ↓VW_rv, ↓VW_rn, ↓VW_nx, ↓RV_rv, ↓at0, ↓at1, ↓at2, ↓at3, ↓Au_add, ↓Au_sub, ↓Au_bor, ↓Au_mul, ↓sT0, ↓sTS, ↓I1W_i, ↓I2W_i, ↓I3W_l, ↓I3W_s, ↓I3W_t, ↓I3W_n, ↓stepQ_nx, ↓stepQ_ct, ↓stepQ_bk, ↓stepQ_rt, ↓sE, ↓eg0, ↓egS, ↓st0, ↓stS, ↓true_and, ↓and_true, ↓eq_self, ↓isF_v, ↓isF_n, ↓decide_true, ↓decide_false, ↓Bool.not_true, ↓Bool.not_false, List.set_cons_zero, List.set_cons_succ, hT, au_m6, au_m4, au_m1, au_m2, au_c, A.mo, A.ml, A.mp, A.mt, zo, zla, zp, zt, zsi, A.qp, A.qd, A.qr, hne, hg, ↓D_ix0C, ↓D_eqS, cl_bid, ew, ↓D_eqC, reduceCtorEq]
          exact ⟨hn, hn, by omega, by decide, hn, hn, hn, by omega, hn, f1⟩
        | dbl =>
          rw [hc] at ed hg
          have f1 := fin3 (by decide) (by rw [ed]; rfl) (.val (.int m))
          rw [p3] at f1
          have ew : (Cl.dbl).isBid = false := rfl
          simp -implicitDefEqProofs -dsimp (disch := omega) only [bAuG, bAuG5, bAuG4, bAuG3, bAuG2, List.map, List.length, List.replicate, List.cons_append, List.nil_append, ↓W_dt, ↓W_fld, ↓W_meth, ↓W_make, ↓MkW_n, ↓W_popl, ↓W_setf, ↓W_augx, ↓W_asgM, ↓Gam_ncl, ↓EnW_l, ↓EnW_s, ↓EnW_n, ↓EnW_f, ↓EnW_b, ↓LG_rng, ↓LG_seq, ↓LG_enum, ↓LG_zip, ↓LG_str, ↓LG_seqR, ↓LG_enumR, ↓I3W_f, ↓I3W_b, ↓InW_s, ↓FdW_v, ↓FdW_o, ↓FdW_d, ↓InB_s, ↓D_fld, ↓D_meth, ↓D_setf, ↓SO_v, ↓SO_n, ↓SO_nf, ↓SO_d, ↓sq_f, ↓live_f, ↓live_b, ↓D_lenF, ↓D_ixF, ↓D_appF, ↓D_setF, ↓D_poplF, ↓D_lofF, ↓tp0, ↓tpS, ↓bh_f, ↓CG_rng, ↓CG_seq, ↓CG_enum, ↓CG_zip, ↓CG_str, ↓CG_seqR, ↓CG_enumR, ↓W_var, ↓W_cst, ↓W_glob, ↓W_bin, ↓W_cmp, ↓W_ix, ↓W_un, ↓W_blt, ↓W_blt2, ↓W_isi, ↓W_bits, ↓W_idx, ↓W_find, ↓W_pop, ↓W_dnew, ↓W_dix, ↓W_din, ↓W_sset, ↓D_sset, ↓W_lrg1, ↓W_lrg2, ↓W_dput, ↓StW_s, ↓ViW_i, ↓VaW_v, ↓SlW_d, ↓bh_nd, ↓OdW_s, ↓LnW_o, ↓LnW_d, ↓D_pop, ↓D_dixI, ↓D_dixS, ↓D_dinI, ↓D_dinS, ↓D_dputI, ↓D_dputS, ↓D_find, ↓D_lrg, ↓W_enum, ↓W_zip, ↓W_istr, ↓lstP_l, ↓lstP_s, ↓lstP_n, ↓lstQ_l, ↓W_revl, ↓W_revs, ↓W_sl, ↓W_bind, ↓W_partT, ↓W_partF, ↓PaW_i, ↓D_list, ↓D_tuple, ↓D_sum, ↓D_sorted, ↓D_maxl, ↓D_minl, ↓D_str, ↓D_bits, ↓D_revS, ↓D_revL, ↓D_revN, ↓seq_t, ↓seq_l, ↓seq_s, ↓seq_n, ↓seq_b, ↓seq_o, ↓ints_n, ↓ints_l, ↓inta_n, ↓inta_l, ↓inta_t, ↓W_exi, ↓W_chain, ↓W_not, ↓W_and, ↓W_or, ↓W_ife, ↓W_tup, ↓W_lst, ↓W_call, ↓W_frz, ↓W_mkbox, ↓W_app, ↓W_enil, ↓W_econs, ↓W_rng1, ↓W_rng2, ↓W_seq, ↓W_asg, ↓W_asgO, ↓W_asgT, ↓W_aug, ↓W_setix, ↓W_expr, ↓W_ret, ↓W_retN, ↓W_pass, ↓W_brk, ↓W_cont, ↓W_raise, ↓W_if, ↓W_for, ↓W_nil, ↓W_cons, ↓W_try, ↓W_ok, ↓W_exc, ↓WC_ok, ↓WC_exc, ↓WK_ok, ↓WK_exc, ↓TW_b, ↓DW_v, ↓DW_n, ↓IT_t, ↓IT_f, ↓IT_dt, ↓IT_df, IT_d, ↓IT_e1, ↓IT_e2, ↓IT_e3, ↓IT_e4, ↓IT_n, ↓IT_a, ↓SlW_v, ↓SlW_o, ↓OW_s, ↓FW_nx, ↓FW_rt, ↓FW_bk, ↓FW_ct, ↓RW_v, ↓RW_n, ↓RW_o, ↓bh_v, ↓bh_n, ↓bh_o, ↓Gam_glob, ↓D_add, ↓D_sub, ↓D_mul, ↓D_fdiv, ↓D_mod, ↓D_band, ↓D_bor, ↓D_bxor, ↓D_shl, ↓D_shr, ↓D_lt, ↓D_le, ↓D_gt, ↓D_ge, ↓D_eqi, ↓D_nei, ↓D_eqb, ↓D_eqll, ↓D_nell, ↓D_eqnn, ↓D_nenn, ↓D_eqnl, ↓D_nenl, ↓D_eqln, ↓D_neln, ↓D_eqtt, ↓D_nett, ↓D_ill, ↓D_itt, ↓D_neb, ↓D_isN, ↓D_inN, ↓D_isi1, ↓D_ini1, ↓D_ist1, ↓D_int1, ↓D_isl1, ↓D_inl1, ↓D_isn1, ↓D_inn1, ↓D_isb1, ↓D_inb1, ↓D_neg, ↓D_abs, ↓D_int, ↓D_intb, ↓D_lenT, ↓D_lenL, ↓D_lenS, ↓D_lenN, ↓D_lenB, ↓D_lenO, ↓D_max, ↓D_min, ↓D_ixT, ↓D_ixL, ↓D_ixS, ↓D_ixN, ↓D_ixB, ↓D_ixO, ↓D_setB, ↓D_setO, ↓D_appO, ↓D_lof, ↓D_catNN, ↓D_catNL, ↓D_catLN, ↓D_catLL, ↓D_ii, ↓D_ib, ↓D_bi, ↓D_bb, ↓BW_s, ↓OnW_s, ↓OnB_s, ↓VW_rv, ↓VW_rn, ↓VW_nx, ↓RV_rv, ↓at0, ↓at1, ↓at2, ↓at3, ↓Au_add, ↓Au_sub, ↓Au_bor, ↓Au_mul, ↓sT0, ↓sTS, ↓I1W_i, ↓I2W_i, ↓I3W_l, ↓I3W_s, ↓I3W_t, ↓I3W_n, ↓stepQ_nx, ↓stepQ_ct, ↓stepQ_bk, ↓stepQ_rt, ↓sE, ↓eg0, ↓egS, ↓st0, ↓stS, ↓true_and, ↓and_true, ↓eq_self, ↓isF_v, ↓isF_n, ↓decide_true, ↓decide_false, ↓Bool.not_true, ↓Bool.not_false, List.set_cons_zero, List.set_cons_succ, hT, au_m6, au_m4, au_m1, au_m2, au_c, A.mo, A.ml, A.mp, A.mt, zo, zla, zp, zt, zsi, A.qp, A.qd, A.qr, hne, hg, ↓D_ix0C, ↓D_eqS, cl_bid, ew, ↓D_eqC, reduceCtorEq]
          exact ⟨hn, hn, by omega, by decide, hn, hn, hn, hn, by omega, f1⟩
        | rdb =>
          rw [hc] at ed hg
          have f1 := fin1 (by decide) (by rw [ed]; rfl) (.val (.int m))
          rw [p1] at f1
          have ew : (Cl.rdb).isBid = false := rfl
          simp -implicitDefEqProofs -dsimp (disch := omega) only [bAuG, bAuG5, bAuG4, bAuG3, bAuG2, List.map, List.length, List.replicate, List.cons_append, List.nil_append, ↓W_dt, ↓W_fld, ↓W_meth, ↓W_make, ↓MkW_n, ↓W_popl, ↓W_setf, ↓W_augx, ↓W_asgM, ↓Gam_ncl, ↓EnW_l, ↓EnW_s, ↓EnW_n, ↓EnW_f, ↓EnW_b, ↓LG_rng, ↓LG_seq, ↓LG_enum, ↓LG_zip, ↓LG_str, ↓LG_seqR, ↓LG_enumR, ↓I3W_f, ↓I3W_b, ↓InW_s, ↓FdW_v, ↓FdW_o, ↓FdW_d, ↓InB_s, ↓D_fld, ↓D_meth, ↓D_setf, ↓SO_v, ↓SO_n, ↓SO_nf, ↓SO_d, ↓sq_f, ↓live_f, ↓live_b, ↓D_lenF, ↓D_ixF, ↓D_appF, ↓D_setF, ↓D_poplF, ↓D_lofF, ↓tp0, ↓tpS, ↓bh_f, ↓CG_rng, ↓CG_seq, ↓CG_enum, ↓CG_zip, ↓CG_str, ↓CG_seqR, ↓CG_enumR, ↓W_var, ↓W_cst, ↓W_glob, ↓W_bin, ↓W_cmp, ↓W_ix, ↓W_un, ↓W_blt, ↓W_blt2, ↓W_isi, ↓W_bits, ↓W_idx, ↓W_find, ↓W_pop, ↓W_dnew, ↓W_dix, ↓W_din, ↓W_sset, ↓D_sset, ↓W_lrg1, ↓W_lrg2, ↓W_dput, ↓StW_s, ↓ViW_i, ↓VaW_v, ↓SlW_d, ↓bh_nd, ↓OdW_s, ↓LnW_o, ↓LnW_d, ↓D_pop, ↓D_dixI, ↓D_dixS, ↓D_dinI, ↓D_dinS, ↓D_dputI, ↓D_dputS, ↓D_find, ↓D_lrg, ↓W_enum, ↓W_zip, ↓W_istr, ↓lstP_l, ↓lstP_s, ↓lstP_n, ↓lstQ_l, ↓W_revl, ↓W_revs, ↓W_sl, ↓W_bind, ↓W_partT, ↓W_partF, ↓PaW_i, ↓D_list, ↓D_tuple, ↓D_sum, ↓D_sorted, ↓D_maxl, ↓D_minl, ↓D_str, ↓D_bits, ↓D_revS, ↓D_revL, ↓D_revN, ↓seq_t, ↓seq_l, ↓seq_s, ↓seq_n, ↓seq_b, ↓seq_o, ↓ints_n, ↓ints_l, ↓inta_n, ↓inta_l, ↓inta_t, ↓W_exi, ↓W_chain, ↓W_not, ↓W_and, ↓W_or, ↓W_ife, ↓W_tup, ↓W_lst, ↓W_call, ↓W_frz, ↓W_mkbox, ↓W_app, ↓W_enil, ↓W_econs, ↓W_rng1, ↓W_rng2, ↓W_seq, ↓W_asg, ↓W_asgO, ↓W_asgT, ↓W_aug, ↓W_setix, ↓W_expr, ↓W_ret, ↓W_retN, ↓W_pass, ↓W_brk, ↓W_cont, ↓W_raise, ↓W_if, ↓W_for, ↓W_nil, ↓W_cons, ↓W_try, ↓W_ok, ↓W_exc, ↓WC_ok, ↓WC_exc, ↓WK_ok, ↓WK_exc, ↓TW_b, ↓DW_v, ↓DW_n, ↓IT_t, ↓IT_f, ↓IT_dt, ↓IT_df, IT_d, ↓IT_e1, ↓IT_e2, ↓IT_e3, ↓IT_e4, ↓IT_n, ↓IT_a, ↓SlW_v, ↓SlW_o, ↓OW_s, ↓FW_nx, ↓FW_rt, ↓FW_bk, ↓FW_ct, ↓RW_v, ↓RW_n, ↓RW_o, ↓bh_v, ↓bh_n, ↓bh_o, ↓Gam_glob, ↓D_add, ↓D_sub, ↓D_mul, ↓D_fdiv, ↓D_mod, ↓D_band, ↓D_bor, ↓D_bxor, ↓D_shl, ↓D_shr, ↓D_lt, ↓D_le, ↓D_gt, ↓D_ge, ↓D_eqi, ↓D_nei, ↓D_eqb, ↓D_eqll, ↓D_nell, ↓D_eqnn, ↓D_nenn, ↓D_eqnl, ↓D_nenl, ↓D_eqln, ↓D_neln, ↓D_eqtt, ↓D_nett, ↓D_ill, ↓D_itt, ↓D_neb, ↓D_isN, ↓D_inN, ↓D_isi1, ↓D_ini1, ↓D_ist1, ↓D_int1, ↓D_isl1, ↓D_inl1, ↓D_isn1, ↓D_inn1, ↓D_isb1, ↓D_inb1, ↓D_neg, ↓D_abs, ↓D_int, ↓D_intb, ↓D_lenT, ↓D_lenL, ↓D_lenS, ↓D_lenN, ↓D_lenB, ↓D_lenO, ↓D_max, ↓D_min, ↓D_ixT, ↓D_ixL, ↓D_ixS, ↓D_ixN, ↓D_ixB, ↓D_ixO, ↓D_setB, ↓D_setO, ↓D_appO, ↓D_lof, ↓D_catNN, ↓D_catNL, ↓D_catLN, ↓D_catLL, ↓D_ii, ↓D_ib, ↓D_bi, ↓D_bb, ↓BW_s, ↓OnW_s, ↓OnB_s, ↓VW_rv, ↓VW_rn, ↓VW_nx, ↓RV_rv, ↓at0, ↓at1, ↓at2, ↓at3, ↓Au_add, ↓Au_sub, ↓Au_bor, ↓Au_mul, ↓sT0, ↓sTS, ↓I1W_i, ↓I2W_i, ↓I3W_l, ↓I3W_s, ↓I3W_t, ↓I3W_n, ↓stepQ_nx, ↓stepQ_ct, ↓stepQ_bk, ↓stepQ_rt, ↓sE, ↓eg0, ↓egS, ↓st0, ↓stS, ↓true_and, ↓and_true, ↓eq_self, ↓isF_v, ↓isF_n, ↓decide_true, ↓decide_false, ↓Bool.not_true, ↓Bool.not_false, List.set_cons_zero, List.set_cons_succ, hT, au_m6, au_m4, au_m1, au_m2, au_c, A.mo, A.ml, A.mp, A.mt, zo, zla, zp, zt, zsi, A.qp, A.qd, A.qr, hne, hg, ↓D_ix0C, ↓D_eqS, cl_bid, ew, ↓D_eqC, reduceCtorEq]
          exact ⟨hn, hn, by omega, by decide, hn, hn, hn, hn, f1⟩
      · rw [if_neg hp] at ed
        have hne : (((d + m) % 4 % 2 : Nat) : Int) = (((d + cs.length) % 4 % 2 : Nat) : Int) := by omega
        have f1 := fin1 (by decide) (by rw [ed]) (.val (.int m))
        rw [p1] at f1
        simp -implicitDefEqProofs -dsimp (disch := omega) only [bAuG, bAuG5, List.map, List.length, List.replicate, List.cons_append, List.nil_append, ↓W_dt, ↓W_fld, ↓W_meth, ↓W_make, ↓MkW_n, ↓W_popl, ↓W_setf, ↓W_augx, ↓W_asgM, ↓Gam_ncl, ↓EnW_l, ↓EnW_s, ↓EnW_n, ↓EnW_f, ↓EnW_b, ↓LG_rng, ↓LG_seq, ↓LG_enum, ↓LG_zip, ↓LG_str, ↓LG_seqR, ↓LG_enumR, ↓I3W_f, ↓I3W_b, ↓InW_s, ↓FdW_v, ↓FdW_o, ↓FdW_d, ↓InB_s, ↓D_fld, ↓D_meth, ↓D_setf, ↓SO_v, ↓SO_n, ↓SO_nf, ↓SO_d, ↓sq_f, ↓live_f, ↓live_b, ↓D_lenF, ↓D_ixF, ↓D_appF, ↓D_setF, ↓D_poplF, ↓D_lofF, ↓tp0, ↓tpS, ↓bh_f, ↓CG_rng, ↓CG_seq, ↓CG_enum, ↓CG_zip, ↓CG_str, ↓CG_seqR, ↓CG_enumR, ↓W_var, ↓W_cst, ↓W_glob, ↓W_bin, ↓W_cmp, ↓W_ix, ↓W_un, ↓W_blt, ↓W_blt2, ↓W_isi, ↓W_bits, ↓W_idx, ↓W_find, ↓W_pop, ↓W_dnew, ↓W_dix, ↓W_din, ↓W_sset, ↓D_sset, ↓W_lrg1, ↓W_lrg2, ↓W_dput, ↓StW_s, ↓ViW_i, ↓VaW_v, ↓SlW_d, ↓bh_nd, ↓OdW_s, ↓LnW_o, ↓LnW_d, ↓D_pop, ↓D_dixI, ↓D_dixS, ↓D_dinI, ↓D_dinS, ↓D_dputI, ↓D_dputS, ↓D_find, ↓D_lrg, ↓W_enum, ↓W_zip, ↓W_istr, ↓lstP_l, ↓lstP_s, ↓lstP_n, ↓lstQ_l, ↓W_revl, ↓W_revs, ↓W_sl, ↓W_bind, ↓W_partT, ↓W_partF, ↓PaW_i, ↓D_list, ↓D_tuple, ↓D_sum, ↓D_sorted, ↓D_maxl, ↓D_minl, ↓D_str, ↓D_bits, ↓D_revS, ↓D_revL, ↓D_revN, ↓seq_t, ↓seq_l, ↓seq_s, ↓seq_n, ↓seq_b, ↓seq_o, ↓ints_n, ↓ints_l, ↓inta_n, ↓inta_l, ↓inta_t, ↓W_exi, ↓W_chain, ↓W_not, ↓W_and, ↓W_or, ↓W_ife, ↓W_tup, ↓W_lst, ↓W_call, ↓W_frz, ↓W_mkbox, ↓W_app, ↓W_enil, ↓W_econs, ↓W_rng1, ↓W_rng2, ↓W_seq, ↓W_asg, ↓W_asgO, ↓W_asgT, ↓W_aug, ↓W_setix, ↓W_expr, ↓W_ret, ↓W_retN, ↓W_pass, ↓W_brk, ↓W_cont, ↓W_raise, ↓W_if, ↓W_for, ↓W_nil, ↓W_cons, ↓W_try, ↓W_ok, ↓W_exc, ↓WC_ok, ↓WC_exc, ↓WK_ok, ↓WK_exc, ↓TW_b, ↓DW_v, ↓DW_n, ↓IT_t, ↓IT_f, ↓IT_dt, ↓IT_df, IT_d, ↓IT_e1, ↓IT_e2, ↓IT_e3, ↓IT_e4, ↓IT_n, ↓IT_a, ↓SlW_v, ↓SlW_o, ↓OW_s, ↓FW_nx, ↓FW_rt, ↓FW_bk, ↓FW_ct, ↓RW_v, ↓RW_n, ↓RW_o, ↓bh_v, ↓bh_n, ↓bh_o, ↓Gam_glob, ↓D_add, ↓D_sub, ↓D_mul, ↓D_fdiv, ↓D_mod, ↓D_band, ↓D_bor, ↓D_bxor, ↓D_shl, ↓D_shr, ↓D_lt, ↓D_le, ↓D_gt, ↓D_ge, ↓D_eqi, ↓D_nei, ↓D_eqb, ↓D_eqll, ↓D_nell, ↓D_eqnn, ↓D_nenn, ↓D_eqnl, ↓D_nenl, ↓D_eqln, ↓D_neln, ↓D_eqtt, ↓D_nett, ↓D_ill, ↓D_itt, ↓D_neb, ↓D_isN, ↓D_inN, ↓D_isi1, ↓D_ini1, ↓D_ist1, ↓D_int1, ↓D_isl1, ↓D_inl1, ↓D_isn1, ↓D_inn1, ↓D_isb1, ↓D_inb1, ↓D_neg, ↓D_abs, ↓D_int, ↓D_intb, ↓D_lenT, ↓D_lenL, ↓D_lenS, ↓D_lenN, ↓D_lenB, ↓D_lenO, ↓D_max, ↓D_min, ↓D_ixT, ↓D_ixL, ↓D_ixS, ↓D_ixN, ↓D_ixB, ↓D_ixO, ↓D_setB, ↓D_setO, ↓D_appO, ↓D_lof, ↓D_catNN, ↓D_catNL, ↓D_catLN, ↓D_catLL, ↓D_ii, ↓D_ib, ↓D_bi, ↓D_bb, ↓BW_s, ↓OnW_s, ↓OnB_s, ↓VW_rv, ↓VW_rn, ↓VW_nx, ↓RV_rv, ↓at0, ↓at1, ↓at2, ↓at3, ↓Au_add, ↓Au_sub, ↓Au_bor, ↓Au_mul, ↓sT0, ↓sTS, ↓I1W_i, ↓I2W_i, ↓I3W_l, ↓I3W_s, ↓I3W_t, ↓I3W_n, ↓stepQ_nx, ↓stepQ_ct, ↓stepQ_bk, ↓stepQ_rt, ↓sE, ↓eg0, ↓egS, ↓st0, ↓stS, ↓true_and, ↓and_true, ↓eq_self, ↓isF_v, ↓isF_n, ↓decide_true, ↓decide_false, ↓Bool.not_true, ↓Bool.not_false, List.set_cons_zero, List.set_cons_succ, hT, au_m6, au_m4, au_m1, au_m2, au_c, A.mo, A.ml, A.mp, A.mt, zo, zla, zp, zt, zsi, A.qp, A.qd, A.qr, hne]
        exact ⟨hn, hn, by omega, by decide, hn, hn, f1⟩
include A in
theorem au_call (hk : 4 < k) (hT : T[n]? = some (.ins 0 (auF b d cs))) (hl : cs.length ≤ 500) (hb : b.length ≤ 1000) (hB : Bds b cs) (c : Cl) (hc : c ∈ legalN b cs) :
    run p k A.fa false [.box n, c.dt] T = .ok (.val .non) (T.set n (.ins 0 (auF b d (cs ++ [c])))) := by
  have zl : sizeLine = 16777216 := rfl
  have hn := A.ncl
  refine WC_eq (WC_run (by rw [A.aa]; rfl) A.ha (by omega) ?_)
  have zo := au_over (k := k - 1) A false (by omega) hT (by omega)
  have zg := au_legal (k := k - 1) A false (by omega) hT (by omega) hb hB
  have ho : auOver cs = false := by
    cases q : auOver cs with
    | false => rfl
    | true => unfold legalN at hc; rw [if_pos q] at hc; cases hc
  rw [ho] at zo
  have lc := clsD_len cs
  simp -implicitDefEqProofs -dsimp (disch := omega) only [bAuA, bAuA3, bAuA1, List.map, List.length, List.replicate, List.cons_append, List.nil_append, ↓W_dt, ↓W_fld, ↓W_meth, ↓W_make, ↓MkW_n, ↓W_popl, ↓W_setf, ↓W_augx, ↓W_asgM, ↓Gam_ncl, ↓EnW_l, ↓EnW_s, ↓EnW_n, ↓EnW_f, ↓EnW_b, ↓LG_rng, ↓LG_seq, ↓LG_enum, ↓LG_zip, ↓LG_str, ↓LG_seqR, ↓LG_enumR, ↓I3W_f, ↓I3W_b, ↓InW_s, ↓FdW_v, ↓FdW_o, ↓FdW_d, ↓InB_s, ↓D_fld, ↓D_meth, ↓D_setf, ↓SO_v, ↓SO_n, ↓SO_nf, ↓SO_d, ↓sq_f, ↓live_f, ↓live_b, ↓D_lenF, ↓D_ixF, ↓D_appF, ↓D_setF, ↓D_poplF, ↓D_lofF, ↓tp0, ↓tpS, ↓bh_f, ↓CG_rng, ↓CG_seq, ↓CG_enum, ↓CG_zip, ↓CG_str, ↓CG_seqR, ↓CG_enumR, ↓W_var, ↓W_cst, ↓W_glob, ↓W_bin, ↓W_cmp, ↓W_ix, ↓W_un, ↓W_blt, ↓W_blt2, ↓W_isi, ↓W_bits, ↓W_idx, ↓W_find, ↓W_pop, ↓W_dnew, ↓W_dix, ↓W_din, ↓W_sset, ↓D_sset, ↓W_lrg1, ↓W_lrg2, ↓W_dput, ↓StW_s, ↓ViW_i, ↓VaW_v, ↓SlW_d, ↓bh_nd, ↓OdW_s, ↓LnW_o, ↓LnW_d, ↓D_pop, ↓D_dixI, ↓D_dixS, ↓D_dinI, ↓D_dinS, ↓D_dputI, ↓D_dputS, ↓D_find, ↓D_lrg, ↓W_enum, ↓W_zip, ↓W_istr, ↓lstP_l, ↓lstP_s, ↓lstP_n, ↓lstQ_l, ↓W_revl, ↓W_revs, ↓W_sl, ↓W_bind, ↓W_partT, ↓W_partF, ↓PaW_i, ↓D_list, ↓D_tuple, ↓D_sum, ↓D_sorted, ↓D_maxl, ↓D_minl, ↓D_str, ↓D_bits, ↓D_revS, ↓D_revL, ↓D_revN, ↓seq_t, ↓seq_l, ↓seq_s, ↓seq_n, ↓seq_b, ↓seq_o, ↓ints_n, ↓ints_l, ↓inta_n, ↓inta_l, ↓inta_t, ↓W_exi, ↓W_chain, ↓W_not, ↓W_and, ↓W_or, ↓W_ife, ↓W_tup, ↓W_lst, ↓W_call, ↓W_frz, ↓W_mkbox, ↓W_app, ↓W_enil, ↓W_econs, ↓W_rng1, ↓W_rng2, ↓W_seq, ↓W_asg, ↓W_asgO, ↓W_asgT, ↓W_aug, ↓W_setix, ↓W_expr, ↓W_ret, ↓W_retN, ↓W_pass, ↓W_brk, ↓W_cont, ↓W_raise, ↓W_if, ↓W_for, ↓W_nil, ↓W_cons, ↓W_try, ↓W_ok, ↓W_exc, ↓WC_ok, ↓WC_exc, ↓WK_ok, ↓WK_exc, ↓TW_b, ↓DW_v, ↓DW_n, ↓IT_t, ↓IT_f, ↓IT_dt, ↓IT_df, IT_d, ↓IT_e1, ↓IT_e2, ↓IT_e3, ↓IT_e4, ↓IT_n, ↓IT_a, ↓SlW_v, ↓SlW_o, ↓OW_s, ↓FW_nx, ↓FW_rt, ↓FW_bk, ↓FW_ct, ↓RW_v, ↓RW_n, ↓RW_o, ↓bh_v, ↓bh_n, ↓bh_o, ↓Gam_glob, ↓D_add, ↓D_sub, ↓D_mul, ↓D_fdiv, ↓D_mod, ↓D_band, ↓D_bor, ↓D_bxor, ↓D_shl, ↓D_shr, ↓D_lt, ↓D_le, ↓D_gt, ↓D_ge, ↓D_eqi, ↓D_nei, ↓D_eqb, ↓D_eqll, ↓D_nell, ↓D_eqnn, ↓D_nenn, ↓D_eqnl, ↓D_nenl, ↓D_eqln, ↓D_neln, ↓D_eqtt, ↓D_nett, ↓D_ill, ↓D_itt, ↓D_neb, ↓D_isN, ↓D_inN, ↓D_isi1, ↓D_ini1, ↓D_ist1, ↓D_int1, ↓D_isl1, ↓D_inl1, ↓D_isn1, ↓D_inn1, ↓D_isb1, ↓D_inb1, ↓D_neg, ↓D_abs, ↓D_int, ↓D_intb, ↓D_lenT, ↓D_lenL, ↓D_lenS, ↓D_lenN, ↓D_lenB, ↓D_lenO, ↓D_max, ↓D_min, ↓D_ixT, ↓D_ixL, ↓D_ixS, ↓D_ixN, ↓D_ixB, ↓D_ixO, ↓D_setB, ↓D_setO, ↓D_appO, ↓D_lof, ↓D_catNN, ↓D_catNL, ↓D_catLN, ↓D_catLL, ↓D_ii, ↓D_ib, ↓D_bi, ↓D_bb, ↓BW_s, ↓OnW_s, ↓OnB_s, ↓VW_rv, ↓VW_rn, ↓VW_nx, ↓RV_rv, ↓at0, ↓at1, ↓at2, ↓at3, ↓Au_add, ↓Au_sub, ↓Au_bor, ↓Au_mul, ↓sT0, ↓sTS, ↓I1W_i, ↓I2W_i, ↓I3W_l, ↓I3W_s, ↓I3W_t, ↓I3W_n, ↓stepQ_nx, ↓stepQ_ct, ↓stepQ_bk, ↓stepQ_rt, ↓sE, ↓eg0, ↓egS, ↓st0, ↓stS, ↓true_and, ↓and_true, ↓eq_self, ↓isF_v, ↓isF_n, ↓decide_true, ↓decide_false, ↓Bool.not_true, ↓Bool.not_false, List.set_cons_zero, List.set_cons_succ, hT, au_m6, au_m7, au_c, A.mo, A.mg, zo, zg, ↓D_notinC, hc, cls_snoc, au_put, lc]
  exact ⟨hn, hn, hn, by omega⟩
include A in
theorem au_callO (hk : 4 < k) (hT : T[n]? = some (.ins 0 (auF b d cs))) (hl : cs.length ≤ 500) (x : Dt) (ho : auOver cs = true) : run p k A.fa ro [.box n, x] T = .exc A.e1 T := by
  have hn := A.ncl
  refine WC_eqX (WC_run (by rw [A.aa]; rfl) A.ha (by omega) ?_)
  have zo := au_over (k := k - 1) A ro (by omega) hT (by omega)
  rw [ho] at zo
  simp -implicitDefEqProofs -dsimp (disch := omega) only [bAuA, bAuA2, List.map, List.length, List.replicate, List.cons_append, List.nil_append, ↓W_dt, ↓W_fld, ↓W_meth, ↓W_make, ↓MkW_n, ↓W_popl, ↓W_setf, ↓W_augx, ↓W_asgM, ↓Gam_ncl, ↓EnW_l, ↓EnW_s, ↓EnW_n, ↓EnW_f, ↓EnW_b, ↓LG_rng, ↓LG_seq, ↓LG_enum, ↓LG_zip, ↓LG_str, ↓LG_seqR, ↓LG_enumR, ↓I3W_f, ↓I3W_b, ↓InW_s, ↓FdW_v, ↓FdW_o, ↓FdW_d, ↓InB_s, ↓D_fld, ↓D_meth, ↓D_setf, ↓SO_v, ↓SO_n, ↓SO_nf, ↓SO_d, ↓sq_f, ↓live_f, ↓live_b, ↓D_lenF, ↓D_ixF, ↓D_appF, ↓D_setF, ↓D_poplF, ↓D_lofF, ↓tp0, ↓tpS, ↓bh_f, ↓CG_rng, ↓CG_seq, ↓CG_enum, ↓CG_zip, ↓CG_str, ↓CG_seqR, ↓CG_enumR, ↓W_var, ↓W_cst, ↓W_glob, ↓W_bin, ↓W_cmp, ↓W_ix, ↓W_un, ↓W_blt, ↓W_blt2, ↓W_isi, ↓W_bits, ↓W_idx, ↓W_find, ↓W_pop, ↓W_dnew, ↓W_dix, ↓W_din, ↓W_sset, ↓D_sset, ↓W_lrg1, ↓W_lrg2, ↓W_dput, ↓StW_s, ↓ViW_i, ↓VaW_v, ↓SlW_d, ↓bh_nd, ↓OdW_s, ↓LnW_o, ↓LnW_d, ↓D_pop, ↓D_dixI, ↓D_dixS, ↓D_dinI, ↓D_dinS, ↓D_dputI, ↓D_dputS, ↓D_find, ↓D_lrg, ↓W_enum, ↓W_zip, ↓W_istr, ↓lstP_l, ↓lstP_s, ↓lstP_n, ↓lstQ_l, ↓W_revl, ↓W_revs, ↓W_sl, ↓W_bind, ↓W_partT, ↓W_partF, ↓PaW_i, ↓D_list, ↓D_tuple, ↓D_sum, ↓D_sorted, ↓D_maxl, ↓D_minl, ↓D_str, ↓D_bits, ↓D_revS, ↓D_revL, ↓D_revN, ↓seq_t, ↓seq_l, ↓seq_s, ↓seq_n, ↓seq_b, ↓seq_o, ↓ints_n, ↓ints_l, ↓inta_n, ↓inta_l, ↓inta_t, ↓W_exi, ↓W_chain, ↓W_not, ↓W_and, ↓W_or, ↓W_ife, ↓W_tup, ↓W_lst, ↓W_call, ↓W_frz, ↓W_mkbox, ↓W_app, ↓W_enil, ↓W_econs, ↓W_rng1, ↓W_rng2, ↓W_seq, ↓W_asg, ↓W_asgO, ↓W_asgT, ↓W_aug, ↓W_setix, ↓W_expr, ↓W_ret, ↓W_retN, ↓W_pass, ↓W_brk, ↓W_cont, ↓W_raise, ↓W_if, ↓W_for, ↓W_nil, ↓W_cons, ↓W_try, ↓W_ok, ↓W_exc, ↓WC_ok, ↓WC_exc, ↓WK_ok, ↓WK_exc, ↓TW_b, ↓DW_v, ↓DW_n, ↓IT_t, ↓IT_f, ↓IT_dt, ↓IT_df, IT_d, ↓IT_e1, ↓IT_e2, ↓IT_e3, ↓IT_e4, ↓IT_n, ↓IT_a, ↓SlW_v, ↓SlW_o, ↓OW_s, ↓FW_nx, ↓FW_rt, ↓FW_bk, ↓FW_ct, ↓RW_v, ↓RW_n, ↓RW_o, ↓bh_v, ↓bh_n, ↓bh_o, ↓Gam_glob, ↓D_add, ↓D_sub, ↓D_mul, ↓D_fdiv, ↓D_mod, ↓D_band, ↓D_bor, ↓D_bxor, ↓D_shl, ↓D_shr, ↓D_lt, ↓D_le, ↓D_gt, ↓D_ge, ↓D_eqi, ↓D_nei, ↓D_eqb, ↓D_eqll, ↓D_nell, ↓D_eqnn, ↓D_nenn, ↓D_eqnl, ↓D_nenl, ↓D_eqln, ↓D_neln, ↓D_eqtt, ↓D_nett, ↓D_ill, ↓D_itt, ↓D_neb, ↓D_isN, ↓D_inN, ↓D_isi1, ↓D_ini1, ↓D_ist1, ↓D_int1, ↓D_isl1, ↓D_inl1, ↓D_isn1, ↓D_inn1, ↓D_isb1, ↓D_inb1, ↓D_neg, ↓D_abs, ↓D_int, ↓D_intb, ↓D_lenT, ↓D_lenL, ↓D_lenS, ↓D_lenN, ↓D_lenB, ↓D_lenO, ↓D_max, ↓D_min, ↓D_ixT, ↓D_ixL, ↓D_ixS, ↓D_ixN, ↓D_ixB, ↓D_ixO, ↓D_setB, ↓D_setO, ↓D_appO, ↓D_lof, ↓D_catNN, ↓D_catNL, ↓D_catLN, ↓D_catLL, ↓D_ii, ↓D_ib, ↓D_bi, ↓D_bb, ↓BW_s, ↓OnW_s, ↓OnB_s, ↓VW_rv, ↓VW_rn, ↓VW_nx, ↓RV_rv, ↓at0, ↓at1, ↓at2, ↓at3, ↓Au_add, ↓Au_sub, ↓Au_bor, ↓Au_mul, ↓sT0, ↓sTS, ↓I1W_i, ↓I2W_i, ↓I3W_l, ↓I3W_s, ↓I3W_t, ↓I3W_n, ↓stepQ_nx, ↓stepQ_ct, ↓stepQ_bk, ↓stepQ_rt, ↓sE, ↓eg0, ↓egS, ↓st0, ↓stS, ↓true_and, ↓and_true, ↓eq_self, ↓isF_v, ↓isF_n, ↓decide_true, ↓decide_false, ↓Bool.not_true, ↓Bool.not_false, List.set_cons_zero, List.set_cons_succ, hT, au_m6, A.mo, zo]
  exact hn
include A in
theorem au_init (hk : 1 < k) (hT : T[n]? = some (.ins 0 [])) (q z : Nat) (hq : q ≤ 4) (hz : z ≤ 14) : run p k A.fi false [.box n, .int q, .int z, .int d] T = .ok (.val .non) (T.set n (.ins 0 (auF (bidN q z) d []))) := by
  have zl : sizeLine = 16777216 := rfl
  have hn := A.ncl
  have hlt : n < T.length := (List.getElem?_eq_some_iff.1 hT).1
  have hg : ∀ ob, (T.set n ob)[n]? = some ob := fun ob => List.getElem?_set_self hlt
  refine WC_eq (WC_run (by rw [A.ai]; rfl) A.hi (by omega) ?_)
  have zb := bids_run (k := k - 1) A.hb A.ab (by omega) q z hq hz false T
  simp -implicitDefEqProofs -dsimp (disch := omega) only [bAuI, List.map, List.length, List.replicate, List.cons_append, List.nil_append, ↓W_dt, ↓W_fld, ↓W_meth, ↓W_make, ↓MkW_n, ↓W_popl, ↓W_setf, ↓W_augx, ↓W_asgM, ↓Gam_ncl, ↓EnW_l, ↓EnW_s, ↓EnW_n, ↓EnW_f, ↓EnW_b, ↓LG_rng, ↓LG_seq, ↓LG_enum, ↓LG_zip, ↓LG_str, ↓LG_seqR, ↓LG_enumR, ↓I3W_f, ↓I3W_b, ↓InW_s, ↓FdW_v, ↓FdW_o, ↓FdW_d, ↓InB_s, ↓D_fld, ↓D_meth, ↓D_setf, ↓SO_v, ↓SO_n, ↓SO_nf, ↓SO_d, ↓sq_f, ↓live_f, ↓live_b, ↓D_lenF, ↓D_ixF, ↓D_appF, ↓D_setF, ↓D_poplF, ↓D_lofF, ↓tp0, ↓tpS, ↓bh_f, ↓CG_rng, ↓CG_seq, ↓CG_enum, ↓CG_zip, ↓CG_str, ↓CG_seqR, ↓CG_enumR, ↓W_var, ↓W_cst, ↓W_glob, ↓W_bin, ↓W_cmp, ↓W_ix, ↓W_un, ↓W_blt, ↓W_blt2, ↓W_isi, ↓W_bits, ↓W_idx, ↓W_find, ↓W_pop, ↓W_dnew, ↓W_dix, ↓W_din, ↓W_sset, ↓D_sset, ↓W_lrg1, ↓W_lrg2, ↓W_dput, ↓StW_s, ↓ViW_i, ↓VaW_v, ↓SlW_d, ↓bh_nd, ↓OdW_s, ↓LnW_o, ↓LnW_d, ↓D_pop, ↓D_dixI, ↓D_dixS, ↓D_dinI, ↓D_dinS, ↓D_dputI, ↓D_dputS, ↓D_find, ↓D_lrg, ↓W_enum, ↓W_zip, ↓W_istr, ↓lstP_l, ↓lstP_s, ↓lstP_n, ↓lstQ_l, ↓W_revl, ↓W_revs, ↓W_sl, ↓W_bind, ↓W_partT, ↓W_partF, ↓PaW_i, ↓D_list, ↓D_tuple, ↓D_sum, ↓D_sorted, ↓D_maxl, ↓D_minl, ↓D_str, ↓D_bits, ↓D_revS, ↓D_revL, ↓D_revN, ↓seq_t, ↓seq_l, ↓seq_s, ↓seq_n, ↓seq_b, ↓seq_o, ↓ints_n, ↓ints_l, ↓inta_n, ↓inta_l, ↓inta_t, ↓W_exi, ↓W_chain, ↓W_not, ↓W_and, ↓W_or, ↓W_ife, ↓W_tup, ↓W_lst, ↓W_call, ↓W_frz, ↓W_mkbox, ↓W_app, ↓W_enil, ↓W_econs, ↓W_rng1, ↓W_rng2, ↓W_seq, ↓W_asg, ↓W_asgO, ↓W_asgT, ↓W_aug, ↓W_setix, ↓W_expr, ↓W_ret, ↓W_retN, ↓W_pass, ↓W_brk, ↓W_cont, ↓W_raise, ↓W_if, ↓W_for, ↓W_nil, ↓W_cons, ↓W_try, ↓W_ok, ↓W_exc, ↓WC_ok, ↓WC_exc, ↓WK_ok, ↓WK_exc, ↓TW_b, ↓DW_v, ↓DW_n, ↓IT_t, ↓IT_f, ↓IT_dt, ↓IT_df, IT_d, ↓IT_e1, ↓IT_e2, ↓IT_e3, ↓IT_e4, ↓IT_n, ↓IT_a, ↓SlW_v, ↓SlW_o, ↓OW_s, ↓FW_nx, ↓FW_rt, ↓FW_bk, ↓FW_ct, ↓RW_v, ↓RW_n, ↓RW_o, ↓bh_v, ↓bh_n, ↓bh_o, ↓Gam_glob, ↓D_add, ↓D_sub, ↓D_mul, ↓D_fdiv, ↓D_mod, ↓D_band, ↓D_bor, ↓D_bxor, ↓D_shl, ↓D_shr, ↓D_lt, ↓D_le, ↓D_gt, ↓D_ge, ↓D_eqi, ↓D_nei, ↓D_eqb, ↓D_eqll, ↓D_nell, ↓D_eqnn, ↓D_nenn, ↓D_eqnl, ↓D_nenl, ↓D_eqln, ↓D_neln, ↓D_eqtt, ↓D_nett, ↓D_ill, ↓D_itt, ↓D_neb, ↓D_isN, ↓D_inN, ↓D_isi1, ↓D_ini1, ↓D_ist1, ↓D_int1, ↓D_isl1, ↓D_inl1, ↓D_isn1, ↓D_inn1, ↓D_isb1, ↓D_inb1, ↓D_neg, ↓D_abs, ↓D_int, ↓D_intb, ↓D_lenT, ↓D_lenL, ↓D_lenS, ↓D_lenN, ↓D_lenB, ↓D_lenO, ↓D_max, ↓D_min, ↓D_ixT, ↓D_ixL, ↓D_ixS, ↓D_ixN, ↓D_ixB, ↓D_ixO, ↓D_setB, ↓D_setO, ↓D_appO, ↓D_lof, ↓D_catNN, ↓D_catNL, ↓D_catLN, ↓D_catLL, ↓D_ii, ↓D_ib, ↓D_bi, ↓D_bb, ↓BW_s, ↓OnW_s, ↓OnB_s, ↓VW_rv, ↓VW_rn, ↓VW_nx, ↓RV_rv, ↓at0, ↓at1, ↓at2, ↓at3, ↓Au_add, ↓Au_sub, ↓Au_bor, ↓Au_mul, ↓sT0, ↓sTS, ↓I1W_i, ↓I2W_i, ↓I3W_l, ↓I3W_s, ↓I3W_t, ↓I3W_n, ↓stepQ_nx, ↓stepQ_ct, ↓stepQ_bk, ↓stepQ_rt, ↓sE, ↓eg0, ↓egS, ↓st0, ↓stS, ↓true_and, ↓and_true, ↓eq_self, ↓isF_v, ↓isF_n, ↓decide_true, ↓decide_false, ↓Bool.not_true, ↓Bool.not_false, List.set_cons_zero, List.set_cons_succ, hT, zb, hg, List.set_set]
  refine ⟨⟨hn, by omega⟩, ⟨hn, by show (1 : Nat) < 1000; omega⟩, by omega, ⟨hn, by show (2 : Nat) < 1000; omega⟩, rfl⟩
end
end EV
namespace EV
open PySem PySem.Spec PyProof.Rows L2
/-! numbers: whole numbers that are naturals are kept as naturals -/
theorem n_lit (n : Nat) : ((OfNat.ofNat n : Nat) : Int) = (OfNat.ofNat n : Int) := rfl
section
variable (a b n : Nat)
theorem nAdd : (a : Int) + (b : Int) = ((a + b : Nat) : Int) := by omega
theorem nAddR : (a : Int) + (no_index (OfNat.ofNat n : Int)) = ((a + OfNat.ofNat n : Nat) : Int) := by rw [← n_lit]; omega
theorem nAddL : (no_index (OfNat.ofNat n : Int)) + (a : Int) = ((OfNat.ofNat n + a : Nat) : Int) := by rw [← n_lit]; omega
theorem nMul : (a : Int) * (b : Int) = ((a * b : Nat) : Int) := (Int.natCast_mul a b).symm
theorem nMulR : (a : Int) * (no_index (OfNat.ofNat n : Int)) = ((a * OfNat.ofNat n : Nat) : Int) := by rw [← n_lit, nMul]
theorem nMulL : (no_index (OfNat.ofNat n : Int)) * (a : Int) = ((OfNat.ofNat n * a : Nat) : Int) := by rw [← n_lit, nMul]
theorem nSub (h : b ≤ a) : (a : Int) - (b : Int) = ((a - b : Nat) : Int) := by omega
theorem nSubR (h : OfNat.ofNat n ≤ a) : (a : Int) - (no_index (OfNat.ofNat n : Int)) = ((a - OfNat.ofNat n : Nat) : Int) := by rw [← n_lit]; omega
theorem nSubL (h : a ≤ OfNat.ofNat n) : (no_index (OfNat.ofNat n : Int)) - (a : Int) = ((OfNat.ofNat n - a : Nat) : Int) := by rw [← n_lit]; omega
theorem nDiv : (a : Int).fdiv (b : Int) = ((a / b : Nat) : Int) := by rw [Int.fdiv_eq_ediv_of_nonneg _ (by omega)]; rfl
theorem nDivR : (a : Int).fdiv (no_index (OfNat.ofNat n : Int)) = ((a / OfNat.ofNat n : Nat) : Int) := by rw [← n_lit, nDiv]
theorem nDivL : (no_index (OfNat.ofNat n : Int)).fdiv (a : Int) = ((OfNat.ofNat n / a : Nat) : Int) := by rw [← n_lit, nDiv]
theorem nMod : (a : Int).fmod (b : Int) = ((a % b : Nat) : Int) := by rw [Int.fmod_eq_emod_of_nonneg _ (by omega)]; rfl
theorem nModR : (a : Int).fmod (no_index (OfNat.ofNat n : Int)) = ((a % OfNat.ofNat n : Nat) : Int) := by rw [← n_lit, nMod]
theorem nBandR : Builtin.bitAnd (a : Int) (no_index (OfNat.ofNat n : Int)) = ((a &&& OfNat.ofNat n : Nat) : Int) := by rw [← n_lit, band_nat]
theorem nBorR : Builtin.bitOr (a : Int) (no_index (OfNat.ofNat n : Int)) = ((a ||| OfNat.ofNat n : Nat) : Int) := by rw [← n_lit, bor_nat]
theorem nBorL : Builtin.bitOr (no_index (OfNat.ofNat n : Int)) (a : Int) = ((OfNat.ofNat n ||| a : Nat) : Int) := by rw [← n_lit, bor_nat]
theorem nShl : (a : Int) * 2 ^ b = ((a * 2 ^ b : Nat) : Int) := by rw [Int.natCast_mul, Int.natCast_pow]; rfl
theorem nShlL : (no_index (OfNat.ofNat n : Int)) * 2 ^ b = ((OfNat.ofNat n * 2 ^ b : Nat) : Int) := by rw [← n_lit, nShl]
theorem nShr : (a : Int) / 2 ^ b = ((a / 2 ^ b : Nat) : Int) := by rw [Int.natCast_ediv, Int.natCast_pow]; rfl
theorem nToNat : (no_index (OfNat.ofNat n : Int)).toNat = OfNat.ofNat n := rfl
theorem nMin : (if (a : Int) < (b : Int) then (a : Int) else (b : Int)) = ((if a < b then a else b : Nat) : Int) := by split <;> split <;> omega
theorem nMax : (if (b : Int) > (a : Int) then (b : Int) else (a : Int)) = ((if a < b then b else a : Nat) : Int) := by split <;> split <;> omega
theorem nAbs (i : Int) : (if i < 0 then -i else i) = ((i.natAbs : Nat) : Int) := by split <;> omega
end
theorem at4 {α : Type} (a b c d x : α) (l : List α) : atI (a :: b :: c :: d :: x :: l) 4 = some x := by
  rw [at_in _ _ (by omega) (by simp only [List.length_cons]; omega)]; rfl
theorem at5 {α : Type} (a b c d e x : α) (l : List α) : atI (a :: b :: c :: d :: e :: x :: l) 5 = some x := by
  rw [at_in _ _ (by omega) (by simp only [List.length_cons]; omega)]; rfl
theorem at6 {α : Type} (a b c d e f x : α) (l : List α) : atI (a :: b :: c :: d :: e :: f :: x :: l) 6 = some x := by
  rw [at_in _ _ (by omega) (by simp only [List.length_cons]; omega)]; rfl
theorem at7 {α : Type} (a b c d e f g x : α) (l : List α) : atI (a :: b :: c :: d :: e :: f :: g :: x :: l) 7 = some x := by
  rw [at_in _ _ (by omega) (by simp only [List.length_cons]; omega)]; rfl
/-- a drawn number -/
def pn (ns : List Int) (a : Nat) (m : Int) : Nat := (pv ns a m).toNat
theorem pn_lt (ns : List Int) (a : Nat) (m : Int) (h : 0 < m) : (pn ns a m : Int) < m := by
  have h1 := pv_nn ns a m h
  have h2 := pv_lt ns a m h
  unfold pn
  omega
def poN (ns : List Int) (a : Nat) : Ob := pl ns a
theorem pickN {p : Prg} {f : Nat} (hf : p.fn f = ⟨4, bPick⟩) (ha : p.ar f = 2) {k : Nat} (hk : 0 < k) {ns : List Int} (g : GP ns) (a : Nat) (m : Int) (h1 : a < 1000000) (hm : 0 < m) (T : List Ob) :
    run p k f false [.box 0, .int m] (poN ns a :: T) = .ok (.val (.int ((pn ns a m : Nat) : Int))) (poN ns (a + 1) :: T) := by
  have z := pick_run hf ha hk g (a := a) (m := m) (by omega) (by omega) hm T
  have e : ((pn ns a m : Nat) : Int) = pv ns a m := by have := pv_nn ns a m hm; unfold pn; omega
  rw [e]
  unfold poN
  rw [show ((a + 1 : Nat) : Int) = (a : Int) + 1 by omega]
  exact z
end EV
namespace EV
open PySem PySem.Spec PyProof.Rows L2
/-! the laws' own auctions -/
def bLB1 : Ss := (.cons (.ret (.var 2)) .nil)
def bLB2 : Ss :=
  (.cons (.asg (.name 2) false (.bin .add (.var 2) (.comp (.tup (.cons (.cst (.str "bid")) (.cons (.var 3) (.cons (.var 4) .nil)))) (.rng1 (.bin .add (.var 0) (.cst (.int 1)))) (.name 4) (.cst (.bl true)) [4])))
  .nil)
def bLB : Ss :=
  (.cons (.asg (.name 2) false (.lst .nil))
  (.cons (.for_ (.name 3) (.rng2 (.cst (.int 1)) (.bin .add (.bin .sub (.var 1) (.bin .fdiv (.var 1) (.cst (.int 2)))) (.cst (.int 1)))) bLB2)
  bLB1))
def bLD1 : Ss :=
  (.cons (.ret (.or (.cmp .eq (.var 1) (.cst (.int 4))) (.and (.cmp .eq (.var 1) (.cst (.int 3))) (.cmp .gt (.blt .len (.var 0)) (.cst (.int 3))))))
  .nil)
def bLD2 : Ss :=
  (.cons (.asg (.name 1) false (.ix (.lst (.cons (.cst (.int 0)) (.cons (.bin .add (.var 1) (.cst (.int 1))) .nil))) (.blt .int (.cmp .eq (.var 2) (.tup (.cons (.cst (.str "pass")) .nil))))))
  .nil)
def bLD : Ss :=
  (.cons (.asg (.name 1) false (.cst (.int 0)))
  (.cons (.for_ (.name 2) (.seq (.var 0)) bLD2)
  bLD1))
def bLL1 : Ss :=
  (.cons (.ret (.bin .add (.var 3) (.sl (.var 6) true (.var 7) false (.cst .non))))
  .nil)
def bLL2 : Ss :=
  (.cons (.expr (.app (.var 3) (.tup (.cons (.cst (.str "redouble")) .nil))))
  .nil)
def bLL3 : Ss :=
  (.cons (.iff (.cmp .eq (.ix (.var 2) (.ix (.var 4) (.un .neg (.cst (.int 1))))) (.tup (.cons (.cst (.str "double")) .nil))) bLL2 .nil)
  .nil)
def bLL4 : Ss :=
  (.cons (.expr (.app (.var 3) (.tup (.cons (.cst (.str "double")) .nil))))
  .nil)
def bLL5 : Ss :=
  (.cons (.iff (.cmp .eq (.ix (.ix (.var 2) (.ix (.var 4) (.un .neg (.cst (.int 1))))) (.cst (.int 0))) (.cst (.str "bid"))) bLL4 .nil)
  bLL3)
def bLL6 : Ss :=
  (.cons (.iff (.and (.cmp .ne (.var 4) (.lst .nil)) (.cmp .eq (.bin .mod (.blt .int (.bin .sub (.blt .len (.var 2)) (.ix (.var 4) (.un .neg (.cst (.int 1)))))) (.cst (.int 2))) (.cst (.int 1)))) bLL5 .nil)
  bLL1)
def bLL7 : Ss :=
  (.cons (.asg (.name 7) false (.bin .add (.idx (.var 6) (.var 8)) (.cst (.int 1))))
  .nil)
def bLL8 : Ss :=
  (.cons (.iff (.cmp .eq (.ix (.var 8) (.cst (.int 0))) (.cst (.str "bid"))) bLL7 .nil)
  .nil)
def bLL9 (fb : Nat) : Ss :=
  (.cons (.asg (.name 3) true (.lst (.cons (.tup (.cons (.cst (.str "pass")) .nil)) .nil)))
  (.cons (.asg (.name 4) false (.comp (.var 5) (.rng1 (.blt .len (.var 2))) (.name 5) (.cmp .ne (.ix (.var 2) (.var 5)) (.tup (.cons (.cst (.str "pass")) .nil))) [5]))
  (.cons (.asg (.name 6) false (.call fb (.cons (.var 0) (.cons (.var 1) .nil))))
  (.cons (.asg (.name 7) false (.cst (.int 0)))
  (.cons (.for_ (.name 8) (.seq (.var 2)) bLL8)
  bLL6)))))
def bLL0 : Ss :=
  (.cons (.ret (.lst .nil))
  .nil)
def bLL (fb fd : Nat) : Ss :=
  (.cons (.iff (.call fd (.cons (.var 2) .nil)) bLL0 .nil)
  (bLL9 fb))
def bLN1 (fp : Nat) : Ss :=
  (.cons (.ret (.ix (.var 1) (.bin .add (.cst (.int 1)) (.call fp (.cons (.var 0) (.cons (.blt2 .min (.cst (.int 3)) (.bin .sub (.blt .len (.var 1)) (.cst (.int 1)))) .nil))))))
  .nil)
def bLN2 : Ss :=
  (.cons (.ret (.ix (.var 1) (.un .neg (.cst (.int 1)))))
  .nil)
def bLN3 (fp : Nat) : Ss :=
  (.cons (.iff (.cmp .eq (.var 2) (.cst (.int 2))) bLN2 .nil)
  (bLN1 fp))
def bLN4 : Ss :=
  (.cons (.ret (.ix (.var 1) (.cst (.int 0))))
  .nil)
def bLN (fp : Nat) : Ss :=
  (.cons (.asg (.name 2) false (.call fp (.cons (.var 0) (.cons (.cst (.int 6)) .nil))))
  (.cons (.iff (.or (.cmp .lt (.var 2) (.cst (.int 2))) (.cmp .eq (.blt .len (.var 1)) (.cst (.int 1)))) bLN4 .nil)
  (bLN3 fp)))
structure LaP (p : Prg) where
  fp : Nat
  fb : Nat
  fd : Nat
  fl : Nat
  fn : Nat
  hp : p.fn fp = ⟨4, bPick⟩
  hb : p.fn fb = ⟨5, bLB⟩
  hd : p.fn fd = ⟨3, bLD⟩
  hl : p.fn fl = ⟨9, bLL fb fd⟩
  hn : p.fn fn = ⟨3, bLN fp⟩
  ap : p.ar fp = 2
  ab : p.ar fb = 2
  ad : p.ar fd = 1
  al : p.ar fl = 3
  an : p.ar fn = 2
/-! plain -/
def trail (cs : List Cl) : Nat := cs.foldl (fun t c => if c = .pass then t + 1 else 0) 0
theorem trail_snoc (cs : List Cl) (c : Cl) : trail (cs ++ [c]) = if c = .pass then trail cs + 1 else 0 := by
  unfold trail
  rw [List.foldl_append]; rfl
theorem trail_last (cs : List Cl) : (cs.length : Int) - 1 - lastI Cl.np cs = trail cs := by
  induction cs using snoc_ind with
  | h0 => rfl
  | hs cs c ih =>
    rw [trail_snoc, lastI_snoc, List.length_append, List.length_singleton]
    by_cases h : c = .pass
    · have : Cl.np c = false := by unfold Cl.np; rw [decide_eq_true h]; rfl
      rw [if_neg (by rw [this]; exact Bool.false_ne_true), if_pos h]
      omega
    · have : Cl.np c = true := by unfold Cl.np; rw [decide_eq_false h]; rfl
      rw [if_pos this, if_neg h]
      omega
def doneN (cs : List Cl) : Bool := decide (trail cs = 4) || (decide (trail cs = 3) && decide (3 < cs.length))
theorem done_over (cs : List Cl) (h : trail cs ≤ 4) : auOver cs = doneN cs := by
  unfold auOver doneN
  rw [trail_last]
  have h2 := trail_last cs
  rw [Bool.eq_iff_iff]
  simp only [Bool.or_eq_true, Bool.and_eq_true, decide_eq_true_eq]
  omega
theorem lowN_snoc (b cs : List Cl) (c : Cl) : lowN b (cs ++ [c]) = if c.isBid = true then (b.findIdx fun z => decide (z = c)) + 1 else lowN b cs := by
  unfold lowN
  rw [plN_snoc]
  by_cases h : c.isBid = true
  · rw [if_pos h, if_pos h, List.getLast?_append]
    show (b.findIdx fun z => decide (z = (cs ++ [c]).getD cs.length .pass)) + 1 = _
    have e : (cs ++ [c]).getD cs.length .pass = c := by rw [List.getD_eq_getElem?_getD, List.getElem?_append_right (Nat.le_refl _)]; simp
    rw [e]
  · rw [if_neg h, if_neg h, List.append_nil]
    cases e : (plN Cl.isBid cs).getLast? with
    | none => rfl
    | some k =>
      have hk := plN_lt _ _ k (List.mem_of_getLast? e)
      show (b.findIdx fun z => decide (z = (cs ++ [c]).getD k .pass)) + 1 = (b.findIdx fun z => decide (z = cs.getD k .pass)) + 1
      rw [List.getD_eq_getElem?_getD, List.getElem?_append_left hk, ← List.getD_eq_getElem?_getD]
def bidP (q n : Nat) : List Cl := (List.range n).flatMap fun l => (List.range (q + 1)).map fun s => .bid (1 + l) s
theorem bidP_len (q : Nat) (hq : q ≤ 4) (n : Nat) : (bidP q n).length = n * (q + 1) := by
  unfold bidP
  induction n with
  | zero => simp
  | succ n ih => rw [List.range_succ (n := n), List.flatMap_append, List.length_append, ih, Nat.succ_mul]; simp
section
variable {p : Prg} (A : LaP p) {k : Nat} {T : List Ob} {m : Nat} {cs : List Cl} (ro : Bool)
include A in
theorem lab_run (hk : 0 < k) (q z : Nat) (hq : q ≤ 4) (hz : z ≤ 14) : run p k A.fb ro [.int q, .int z] T = .ok (.val (.lst (clsD (bidN q z)))) T := by
  have zl : sizeLine = 16777216 := rfl
  refine WC_eq (WC_run (by rw [A.ab]; rfl) A.hb hk ?_)
  simp -implicitDefEqProofs -dsimp (disch := omega) only [bLB, List.map, List.length, List.replicate, List.cons_append, List.nil_append, ↓W_dt, ↓W_fld, ↓W_meth, ↓W_make, ↓MkW_n, ↓W_popl, ↓W_setf, ↓W_augx, ↓W_asgM, ↓Gam_ncl, ↓EnW_l, ↓EnW_s, ↓EnW_n, ↓EnW_f, ↓EnW_b, ↓LG_rng, ↓LG_seq, ↓LG_enum, ↓LG_zip, ↓LG_str, ↓LG_seqR, ↓LG_enumR, ↓I3W_f, ↓I3W_b, ↓InW_s, ↓FdW_v, ↓FdW_o, ↓FdW_d, ↓InB_s, ↓D_fld, ↓D_meth, ↓D_setf, ↓SO_v, ↓SO_n, ↓SO_nf, ↓SO_d, ↓sq_f, ↓live_f, ↓live_b, ↓D_lenF, ↓D_ixF, ↓D_appF, ↓D_setF, ↓D_poplF, ↓D_lofF, ↓tp0, ↓tpS, ↓bh_f, ↓CG_rng, ↓CG_seq, ↓CG_enum, ↓CG_zip, ↓CG_str, ↓CG_seqR, ↓CG_enumR, ↓W_var, ↓W_cst, ↓W_glob, ↓W_bin, ↓W_cmp, ↓W_ix, ↓W_un, ↓W_blt, ↓W_blt2, ↓W_isi, ↓W_bits, ↓W_idx, ↓W_find, ↓W_pop, ↓W_dnew, ↓W_dix, ↓W_din, ↓W_sset, ↓D_sset, ↓W_lrg1, ↓W_lrg2, ↓W_dput, ↓StW_s, ↓ViW_i, ↓VaW_v, ↓SlW_d, ↓bh_nd, ↓OdW_s, ↓LnW_o, ↓LnW_d, ↓D_pop, ↓D_dixI, ↓D_dixS, ↓D_dinI, ↓D_dinS, ↓D_dputI, ↓D_dputS, ↓D_find, ↓D_lrg, ↓W_enum, ↓W_zip, ↓W_istr, ↓lstP_l, ↓lstP_s, ↓lstP_n, ↓lstQ_l, ↓W_revl, ↓W_revs, ↓W_sl, ↓W_bind, ↓W_partT, ↓W_partF, ↓PaW_i, ↓D_list, ↓D_tuple, ↓D_sum, ↓D_sorted, ↓D_maxl, ↓D_minl, ↓D_str, ↓D_bits, ↓D_revS, ↓D_revL, ↓D_revN, ↓seq_t, ↓seq_l, ↓seq_s, ↓seq_n, ↓seq_b, ↓seq_o, ↓ints_n, ↓ints_l, ↓inta_n, ↓inta_l, ↓inta_t, ↓W_exi, ↓W_chain, ↓W_not, ↓W_and, ↓W_or, ↓W_ife, ↓W_tup, ↓W_lst, ↓W_call, ↓W_frz, ↓W_mkbox, ↓W_app, ↓W_enil, ↓W_econs, ↓W_rng1, ↓W_rng2, ↓W_seq, ↓W_asg, ↓W_asgO, ↓W_asgT, ↓W_aug, ↓W_setix, ↓W_expr, ↓W_ret, ↓W_retN, ↓W_pass, ↓W_brk, ↓W_cont, ↓W_raise, ↓W_if, ↓W_for, ↓W_nil, ↓W_cons, ↓W_try, ↓W_ok, ↓W_exc, ↓WC_ok, ↓WC_exc, ↓WK_ok, ↓WK_exc, ↓TW_b, ↓DW_v, ↓DW_n, ↓IT_t, ↓IT_f, ↓IT_dt, ↓IT_df, IT_dt, IT_df, ↓IT_e1, ↓IT_e2, ↓IT_e3, ↓IT_e4, ↓IT_n, ↓IT_a, ↓SlW_v, ↓SlW_o, ↓OW_s, ↓FW_nx, ↓FW_rt, ↓FW_bk, ↓FW_ct, ↓RW_v, ↓RW_n, ↓RW_o, ↓bh_v, ↓bh_n, ↓bh_o, ↓Gam_glob, ↓D_add, ↓D_sub, ↓D_mul, ↓D_fdiv, ↓D_mod, ↓D_band, ↓D_bor, ↓D_bxor, ↓D_shl, ↓D_shr, ↓D_lt, ↓D_le, ↓D_gt, ↓D_ge, ↓D_eqi, ↓D_nei, ↓D_eqb, ↓D_eqll, ↓D_nell, ↓D_eqnn, ↓D_nenn, ↓D_eqnl, ↓D_nenl, ↓D_eqln, ↓D_neln, ↓D_eqtt, ↓D_nett, ↓D_ill, ↓D_itt, ↓D_neb, ↓D_isN, ↓D_inN, ↓D_isi1, ↓D_ini1, ↓D_ist1, ↓D_int1, ↓D_isl1, ↓D_inl1, ↓D_isn1, ↓D_inn1, ↓D_isb1, ↓D_inb1, ↓D_neg, ↓D_abs, ↓D_int, ↓D_intb, ↓D_lenT, ↓D_lenL, ↓D_lenS, ↓D_lenN, ↓D_lenB, ↓D_lenO, ↓D_max, ↓D_min, ↓D_ixT, ↓D_ixL, ↓D_ixS, ↓D_ixN, ↓D_ixB, ↓D_ixO, ↓D_setB, ↓D_setO, ↓D_appO, ↓D_lof, ↓D_catNN, ↓D_catNL, ↓D_catLN, ↓D_catLL, ↓D_ii, ↓D_ib, ↓D_bi, ↓D_bb, ↓BW_s, ↓OnW_s, ↓OnB_s, ↓VW_rv, ↓VW_rn, ↓VW_nx, ↓RV_rv, ↓at0, ↓at1, ↓at2, ↓at3, ↓Au_add, ↓Au_sub, ↓Au_bor, ↓Au_mul, ↓sT0, ↓sTS, ↓I1W_i, ↓I2W_i, ↓I3W_l, ↓I3W_s, ↓I3W_t, ↓I3W_n, ↓stepQ_nx, ↓stepQ_ct, ↓stepQ_bk, ↓stepQ_rt, ↓sE, ↓eg0, ↓egS, ↓st0, ↓stS, ↓true_and, ↓and_true, ↓eq_self, ↓isF_v, ↓isF_n, ↓decide_true, ↓decide_false, ↓Bool.not_true, ↓Bool.not_false, List.set_cons_zero, List.set_cons_succ, at4, at5, at6, at7, nAdd, nAddR, nAddL, nMul, nMulR, nMulL, nSub, nSubR, nSubL, nDiv, nDivR, nDivL, nMod, nModR, nBandR, nBorR, nBorL, nShl, nShlL, nShr, nToNat, nMin, nMax, Int.toNat_natCast, band_nat, bor_nat, Nat.zero_add, natsD_len]
  with_reducible and_intros
  all_goals first | omega | decide | exact smallR_in _ _ (by omega) (by omega) (by omega) (by omega) | skip
  refine W_loop_rng (fun l st => ∃ s3 s4 : Sl, s4.isOwn = false ∧ st = ⟨[.val (.int q), .val (.int z), .val (.lst (clsD (bidP q l))), s3, s4], T, ro⟩) ⟨_, .none, rfl, rfl⟩ ?_ ?_
  · rintro l st hl ⟨s3, s4, o4, rfl⟩
    have ll := bidP_len q hq l
    have hm : l * (q + 1) ≤ 14 * 5 := Nat.mul_le_mul (by omega) (by omega)
    have lc := clsD_len (bidP q l)
    simp -implicitDefEqProofs -dsimp (disch := omega) only [bLB2, List.map, List.length, List.replicate, List.cons_append, List.nil_append, ↓W_dt, ↓W_fld, ↓W_meth, ↓W_make, ↓MkW_n, ↓W_popl, ↓W_setf, ↓W_augx, ↓W_asgM, ↓Gam_ncl, ↓EnW_l, ↓EnW_s, ↓EnW_n, ↓EnW_f, ↓EnW_b, ↓LG_rng, ↓LG_seq, ↓LG_enum, ↓LG_zip, ↓LG_str, ↓LG_seqR, ↓LG_enumR, ↓I3W_f, ↓I3W_b, ↓InW_s, ↓FdW_v, ↓FdW_o, ↓FdW_d, ↓InB_s, ↓D_fld, ↓D_meth, ↓D_setf, ↓SO_v, ↓SO_n, ↓SO_nf, ↓SO_d, ↓sq_f, ↓live_f, ↓live_b, ↓D_lenF, ↓D_ixF, ↓D_appF, ↓D_setF, ↓D_poplF, ↓D_lofF, ↓tp0, ↓tpS, ↓bh_f, ↓CG_rng, ↓CG_seq, ↓CG_enum, ↓CG_zip, ↓CG_str, ↓CG_seqR, ↓CG_enumR, ↓W_var, ↓W_cst, ↓W_glob, ↓W_bin, ↓W_cmp, ↓W_ix, ↓W_un, ↓W_blt, ↓W_blt2, ↓W_isi, ↓W_bits, ↓W_idx, ↓W_find, ↓W_pop, ↓W_dnew, ↓W_dix, ↓W_din, ↓W_sset, ↓D_sset, ↓W_lrg1, ↓W_lrg2, ↓W_dput, ↓StW_s, ↓ViW_i, ↓VaW_v, ↓SlW_d, ↓bh_nd, ↓OdW_s, ↓LnW_o, ↓LnW_d, ↓D_pop, ↓D_dixI, ↓D_dixS, ↓D_dinI, ↓D_dinS, ↓D_dputI, ↓D_dputS, ↓D_find, ↓D_lrg, ↓W_enum, ↓W_zip, ↓W_istr, ↓lstP_l, ↓lstP_s, ↓lstP_n, ↓lstQ_l, ↓W_revl, ↓W_revs, ↓W_sl, ↓W_bind, ↓W_partT, ↓W_partF, ↓PaW_i, ↓D_list, ↓D_tuple, ↓D_sum, ↓D_sorted, ↓D_maxl, ↓D_minl, ↓D_str, ↓D_bits, ↓D_revS, ↓D_revL, ↓D_revN, ↓seq_t, ↓seq_l, ↓seq_s, ↓seq_n, ↓seq_b, ↓seq_o, ↓ints_n, ↓ints_l, ↓inta_n, ↓inta_l, ↓inta_t, ↓W_exi, ↓W_chain, ↓W_not, ↓W_and, ↓W_or, ↓W_ife, ↓W_tup, ↓W_lst, ↓W_call, ↓W_frz, ↓W_mkbox, ↓W_app, ↓W_enil, ↓W_econs, ↓W_rng1, ↓W_rng2, ↓W_seq, ↓W_asg, ↓W_asgO, ↓W_asgT, ↓W_aug, ↓W_setix, ↓W_expr, ↓W_ret, ↓W_retN, ↓W_pass, ↓W_brk, ↓W_cont, ↓W_raise, ↓W_if, ↓W_for, ↓W_nil, ↓W_cons, ↓W_try, ↓W_ok, ↓W_exc, ↓WC_ok, ↓WC_exc, ↓WK_ok, ↓WK_exc, ↓TW_b, ↓DW_v, ↓DW_n, ↓IT_t, ↓IT_f, ↓IT_dt, ↓IT_df, IT_dt, IT_df, ↓IT_e1, ↓IT_e2, ↓IT_e3, ↓IT_e4, ↓IT_n, ↓IT_a, ↓SlW_v, ↓SlW_o, ↓OW_s, ↓FW_nx, ↓FW_rt, ↓FW_bk, ↓FW_ct, ↓RW_v, ↓RW_n, ↓RW_o, ↓bh_v, ↓bh_n, ↓bh_o, ↓Gam_glob, ↓D_add, ↓D_sub, ↓D_mul, ↓D_fdiv, ↓D_mod, ↓D_band, ↓D_bor, ↓D_bxor, ↓D_shl, ↓D_shr, ↓D_lt, ↓D_le, ↓D_gt, ↓D_ge, ↓D_eqi, ↓D_nei, ↓D_eqb, ↓D_eqll, ↓D_nell, ↓D_eqnn, ↓D_nenn, ↓D_eqnl, ↓D_nenl, ↓D_eqln, ↓D_neln, ↓D_eqtt, ↓D_nett, ↓D_ill, ↓D_itt, ↓D_neb, ↓D_isN, ↓D_inN, ↓D_isi1, ↓D_ini1, ↓D_ist1, ↓D_int1, ↓D_isl1, ↓D_inl1, ↓D_isn1, ↓D_inn1, ↓D_isb1, ↓D_inb1, ↓D_neg, ↓D_abs, ↓D_int, ↓D_intb, ↓D_lenT, ↓D_lenL, ↓D_lenS, ↓D_lenN, ↓D_lenB, ↓D_lenO, ↓D_max, ↓D_min, ↓D_ixT, ↓D_ixL, ↓D_ixS, ↓D_ixN, ↓D_ixB, ↓D_ixO, ↓D_setB, ↓D_setO, ↓D_appO, ↓D_lof, ↓D_catNN, ↓D_catNL, ↓D_catLN, ↓D_catLL, ↓D_ii, ↓D_ib, ↓D_bi, ↓D_bb, ↓BW_s, ↓OnW_s, ↓OnB_s, ↓VW_rv, ↓VW_rn, ↓VW_nx, ↓RV_rv, ↓at0, ↓at1, ↓at2, ↓at3, ↓Au_add, ↓Au_sub, ↓Au_bor, ↓Au_mul, ↓sT0, ↓sTS, ↓I1W_i, ↓I2W_i, ↓I3W_l, ↓I3W_s, ↓I3W_t, ↓I3W_n, ↓stepQ_nx, ↓stepQ_ct, ↓stepQ_bk, ↓stepQ_rt, ↓sE, ↓eg0, ↓egS, ↓st0, ↓stS, ↓true_and, ↓and_true, ↓eq_self, ↓isF_v, ↓isF_n, ↓decide_true, ↓decide_false, ↓Bool.not_true, ↓Bool.not_false, List.set_cons_zero, List.set_cons_succ, at4, at5, at6, at7, nAdd, nAddR, nAddL, nMul, nMulR, nMulL, nSub, nSubR, nSubL, nDiv, nDivR, nDivL, nMod, nModR, nBandR, nBorR, nBorL, nShl, nShlL, nShr, nToNat, nMin, nMax, Int.toNat_natCast, band_nat, bor_nat, Nat.zero_add, natsD_len, ↓W_comp, smallR_in]
    refine W_comp_pure (items_r 0 (q + 1)) (fun _ => true) (fun d => match d with | .int s => (Cl.bid (1 + l) s.toNat).dt | d => d) (sl := s4) rfl o4 (by rw [rngD_len]; omega) ?_ ?_ ?_
    · intro d hd
      simp -implicitDefEqProofs -dsimp (disch := omega) only [List.map, List.length, List.replicate, List.cons_append, List.nil_append, ↓W_dt, ↓W_fld, ↓W_meth, ↓W_make, ↓MkW_n, ↓W_popl, ↓W_setf, ↓W_augx, ↓W_asgM, ↓Gam_ncl, ↓EnW_l, ↓EnW_s, ↓EnW_n, ↓EnW_f, ↓EnW_b, ↓LG_rng, ↓LG_seq, ↓LG_enum, ↓LG_zip, ↓LG_str, ↓LG_seqR, ↓LG_enumR, ↓I3W_f, ↓I3W_b, ↓InW_s, ↓FdW_v, ↓FdW_o, ↓FdW_d, ↓InB_s, ↓D_fld, ↓D_meth, ↓D_setf, ↓SO_v, ↓SO_n, ↓SO_nf, ↓SO_d, ↓sq_f, ↓live_f, ↓live_b, ↓D_lenF, ↓D_ixF, ↓D_appF, ↓D_setF, ↓D_poplF, ↓D_lofF, ↓tp0, ↓tpS, ↓bh_f, ↓CG_rng, ↓CG_seq, ↓CG_enum, ↓CG_zip, ↓CG_str, ↓CG_seqR, ↓CG_enumR, ↓W_var, ↓W_cst, ↓W_glob, ↓W_bin, ↓W_cmp, ↓W_ix, ↓W_un, ↓W_blt, ↓W_blt2, ↓W_isi, ↓W_bits, ↓W_idx, ↓W_find, ↓W_pop, ↓W_dnew, ↓W_dix, ↓W_din, ↓W_sset, ↓D_sset, ↓W_lrg1, ↓W_lrg2, ↓W_dput, ↓StW_s, ↓ViW_i, ↓VaW_v, ↓SlW_d, ↓bh_nd, ↓OdW_s, ↓LnW_o, ↓LnW_d, ↓D_pop, ↓D_dixI, ↓D_dixS, ↓D_dinI, ↓D_dinS, ↓D_dputI, ↓D_dputS, ↓D_find, ↓D_lrg, ↓W_enum, ↓W_zip, ↓W_istr, ↓lstP_l, ↓lstP_s, ↓lstP_n, ↓lstQ_l, ↓W_revl, ↓W_revs, ↓W_sl, ↓W_bind, ↓W_partT, ↓W_partF, ↓PaW_i, ↓D_list, ↓D_tuple, ↓D_sum, ↓D_sorted, ↓D_maxl, ↓D_minl, ↓D_str, ↓D_bits, ↓D_revS, ↓D_revL, ↓D_revN, ↓seq_t, ↓seq_l, ↓seq_s, ↓seq_n, ↓seq_b, ↓seq_o, ↓ints_n, ↓ints_l, ↓inta_n, ↓inta_l, ↓inta_t, ↓W_exi, ↓W_chain, ↓W_not, ↓W_and, ↓W_or, ↓W_ife, ↓W_tup, ↓W_lst, ↓W_call, ↓W_frz, ↓W_mkbox, ↓W_app, ↓W_enil, ↓W_econs, ↓W_rng1, ↓W_rng2, ↓W_seq, ↓W_asg, ↓W_asgO, ↓W_asgT, ↓W_aug, ↓W_setix, ↓W_expr, ↓W_ret, ↓W_retN, ↓W_pass, ↓W_brk, ↓W_cont, ↓W_raise, ↓W_if, ↓W_for, ↓W_nil, ↓W_cons, ↓W_try, ↓W_ok, ↓W_exc, ↓WC_ok, ↓WC_exc, ↓WK_ok, ↓WK_exc, ↓TW_b, ↓DW_v, ↓DW_n, ↓IT_t, ↓IT_f, ↓IT_dt, ↓IT_df, IT_d, ↓IT_e1, ↓IT_e2, ↓IT_e3, ↓IT_e4, ↓IT_n, ↓IT_a, ↓SlW_v, ↓SlW_o, ↓OW_s, ↓FW_nx, ↓FW_rt, ↓FW_bk, ↓FW_ct, ↓RW_v, ↓RW_n, ↓RW_o, ↓bh_v, ↓bh_n, ↓bh_o, ↓Gam_glob, ↓D_add, ↓D_sub, ↓D_mul, ↓D_fdiv, ↓D_mod, ↓D_band, ↓D_bor, ↓D_bxor, ↓D_shl, ↓D_shr, ↓D_lt, ↓D_le, ↓D_gt, ↓D_ge, ↓D_eqi, ↓D_nei, ↓D_eqb, ↓D_eqll, ↓D_nell, ↓D_eqnn, ↓D_nenn, ↓D_eqnl, ↓D_nenl, ↓D_eqln, ↓D_neln, ↓D_eqtt, ↓D_nett, ↓D_ill, ↓D_itt, ↓D_neb, ↓D_isN, ↓D_inN, ↓D_isi1, ↓D_ini1, ↓D_ist1, ↓D_int1, ↓D_isl1, ↓D_inl1, ↓D_isn1, ↓D_inn1, ↓D_isb1, ↓D_inb1, ↓D_neg, ↓D_abs, ↓D_int, ↓D_intb, ↓D_lenT, ↓D_lenL, ↓D_lenS, ↓D_lenN, ↓D_lenB, ↓D_lenO, ↓D_max, ↓D_min, ↓D_ixT, ↓D_ixL, ↓D_ixS, ↓D_ixN, ↓D_ixB, ↓D_ixO, ↓D_setB, ↓D_setO, ↓D_appO, ↓D_lof, ↓D_catNN, ↓D_catNL, ↓D_catLN, ↓D_catLL, ↓D_ii, ↓D_ib, ↓D_bi, ↓D_bb, ↓BW_s, ↓OnW_s, ↓OnB_s, ↓VW_rv, ↓VW_rn, ↓VW_nx, ↓RV_rv, ↓at0, ↓at1, ↓at2, ↓at3, ↓Au_add, ↓Au_sub, ↓Au_bor, ↓Au_mul, ↓sT0, ↓sTS, ↓I1W_i, ↓I2W_i, ↓I3W_l, ↓I3W_s, ↓I3W_t, ↓I3W_n, ↓stepQ_nx, ↓stepQ_ct, ↓stepQ_bk, ↓stepQ_rt, ↓sE, ↓eg0, ↓egS, ↓st0, ↓stS, ↓true_and, ↓and_true, ↓eq_self, ↓isF_v, ↓isF_n, ↓decide_true, ↓decide_false, ↓Bool.not_true, ↓Bool.not_false, List.set_cons_zero, List.set_cons_succ]
    · intro d hd _
      rw [rngD_nat] at hd
      obtain ⟨i, hi, rfl⟩ := natsD_mem hd
      simp -implicitDefEqProofs -dsimp (disch := omega) only [List.map, List.length, List.replicate, List.cons_append, List.nil_append, ↓W_dt, ↓W_fld, ↓W_meth, ↓W_make, ↓MkW_n, ↓W_popl, ↓W_setf, ↓W_augx, ↓W_asgM, ↓Gam_ncl, ↓EnW_l, ↓EnW_s, ↓EnW_n, ↓EnW_f, ↓EnW_b, ↓LG_rng, ↓LG_seq, ↓LG_enum, ↓LG_zip, ↓LG_str, ↓LG_seqR, ↓LG_enumR, ↓I3W_f, ↓I3W_b, ↓InW_s, ↓FdW_v, ↓FdW_o, ↓FdW_d, ↓InB_s, ↓D_fld, ↓D_meth, ↓D_setf, ↓SO_v, ↓SO_n, ↓SO_nf, ↓SO_d, ↓sq_f, ↓live_f, ↓live_b, ↓D_lenF, ↓D_ixF, ↓D_appF, ↓D_setF, ↓D_poplF, ↓D_lofF, ↓tp0, ↓tpS, ↓bh_f, ↓CG_rng, ↓CG_seq, ↓CG_enum, ↓CG_zip, ↓CG_str, ↓CG_seqR, ↓CG_enumR, ↓W_var, ↓W_cst, ↓W_glob, ↓W_bin, ↓W_cmp, ↓W_ix, ↓W_un, ↓W_blt, ↓W_blt2, ↓W_isi, ↓W_bits, ↓W_idx, ↓W_find, ↓W_pop, ↓W_dnew, ↓W_dix, ↓W_din, ↓W_sset, ↓D_sset, ↓W_lrg1, ↓W_lrg2, ↓W_dput, ↓StW_s, ↓ViW_i, ↓VaW_v, ↓SlW_d, ↓bh_nd, ↓OdW_s, ↓LnW_o, ↓LnW_d, ↓D_pop, ↓D_dixI, ↓D_dixS, ↓D_dinI, ↓D_dinS, ↓D_dputI, ↓D_dputS, ↓D_find, ↓D_lrg, ↓W_enum, ↓W_zip, ↓W_istr, ↓lstP_l, ↓lstP_s, ↓lstP_n, ↓lstQ_l, ↓W_revl, ↓W_revs, ↓W_sl, ↓W_bind, ↓W_partT, ↓W_partF, ↓PaW_i, ↓D_list, ↓D_tuple, ↓D_sum, ↓D_sorted, ↓D_maxl, ↓D_minl, ↓D_str, ↓D_bits, ↓D_revS, ↓D_revL, ↓D_revN, ↓seq_t, ↓seq_l, ↓seq_s, ↓seq_n, ↓seq_b, ↓seq_o, ↓ints_n, ↓ints_l, ↓inta_n, ↓inta_l, ↓inta_t, ↓W_exi, ↓W_chain, ↓W_not, ↓W_and, ↓W_or, ↓W_ife, ↓W_tup, ↓W_lst, ↓W_call, ↓W_frz, ↓W_mkbox, ↓W_app, ↓W_enil, ↓W_econs, ↓W_rng1, ↓W_rng2, ↓W_seq, ↓W_asg, ↓W_asgO, ↓W_asgT, ↓W_aug, ↓W_setix, ↓W_expr, ↓W_ret, ↓W_retN, ↓W_pass, ↓W_brk, ↓W_cont, ↓W_raise, ↓W_if, ↓W_for, ↓W_nil, ↓W_cons, ↓W_try, ↓W_ok, ↓W_exc, ↓WC_ok, ↓WC_exc, ↓WK_ok, ↓WK_exc, ↓TW_b, ↓DW_v, ↓DW_n, ↓IT_t, ↓IT_f, ↓IT_dt, ↓IT_df, IT_dt, IT_df, ↓IT_e1, ↓IT_e2, ↓IT_e3, ↓IT_e4, ↓IT_n, ↓IT_a, ↓SlW_v, ↓SlW_o, ↓OW_s, ↓FW_nx, ↓FW_rt, ↓FW_bk, ↓FW_ct, ↓RW_v, ↓RW_n, ↓RW_o, ↓bh_v, ↓bh_n, ↓bh_o, ↓Gam_glob, ↓D_add, ↓D_sub, ↓D_mul, ↓D_fdiv, ↓D_mod, ↓D_band, ↓D_bor, ↓D_bxor, ↓D_shl, ↓D_shr, ↓D_lt, ↓D_le, ↓D_gt, ↓D_ge, ↓D_eqi, ↓D_nei, ↓D_eqb, ↓D_eqll, ↓D_nell, ↓D_eqnn, ↓D_nenn, ↓D_eqnl, ↓D_nenl, ↓D_eqln, ↓D_neln, ↓D_eqtt, ↓D_nett, ↓D_ill, ↓D_itt, ↓D_neb, ↓D_isN, ↓D_inN, ↓D_isi1, ↓D_ini1, ↓D_ist1, ↓D_int1, ↓D_isl1, ↓D_inl1, ↓D_isn1, ↓D_inn1, ↓D_isb1, ↓D_inb1, ↓D_neg, ↓D_abs, ↓D_int, ↓D_intb, ↓D_lenT, ↓D_lenL, ↓D_lenS, ↓D_lenN, ↓D_lenB, ↓D_lenO, ↓D_max, ↓D_min, ↓D_ixT, ↓D_ixL, ↓D_ixS, ↓D_ixN, ↓D_ixB, ↓D_ixO, ↓D_setB, ↓D_setO, ↓D_appO, ↓D_lof, ↓D_catNN, ↓D_catNL, ↓D_catLN, ↓D_catLL, ↓D_ii, ↓D_ib, ↓D_bi, ↓D_bb, ↓BW_s, ↓OnW_s, ↓OnB_s, ↓VW_rv, ↓VW_rn, ↓VW_nx, ↓RV_rv, ↓at0, ↓at1, ↓at2, ↓at3, ↓Au_add, ↓Au_sub, ↓Au_bor, ↓Au_mul, ↓sT0, ↓sTS, ↓I1W_i, ↓I2W_i, ↓I3W_l, ↓I3W_s, ↓I3W_t, ↓I3W_n, ↓stepQ_nx, ↓stepQ_ct, ↓stepQ_bk, ↓stepQ_rt, ↓sE, ↓eg0, ↓egS, ↓st0, ↓stS, ↓true_and, ↓and_true, ↓eq_self, ↓isF_v, ↓isF_n, ↓decide_true, ↓decide_false, ↓Bool.not_true, ↓Bool.not_false, List.set_cons_zero, List.set_cons_succ, at4, at5, at6, at7, nAdd, nAddR, nAddL, nMul, nMulR, nMulL, nSub, nSubR, nSubL, nDiv, nDivR, nDivL, nMod, nModR, nBandR, nBorR, nBorL, nShl, nShlL, nShr, nToNat, nMin, nMax, Int.toNat_natCast, band_nat, bor_nat, Nat.zero_add, natsD_len]
      exact ⟨by omega, rfl⟩
    · rw [List.filter_eq_self.2 (fun _ _ => rfl), rngD_nat]
      have e : ((natsD (List.range (q + 1))).map fun d => match d with | .int s => (Cl.bid (1 + l) s.toNat).dt | d => d) = clsD ((List.range (q + 1)).map fun s => Cl.bid (1 + l) s) := by
        unfold natsD clsD
        rw [List.map_map, List.map_map]
        rfl
      have e2 : bidP q (l + 1) = bidP q l ++ (List.range (q + 1)).map fun s => Cl.bid (1 + l) s := by
        unfold bidP
        rw [List.range_succ (n := l), List.flatMap_append]; simp
      have l2 : (clsD ((List.range (q + 1)).map fun s => Cl.bid (1 + l) s)).length = q + 1 := by rw [clsD_len]; simp
      rw [e]
      simp -implicitDefEqProofs -dsimp (disch := omega) only [List.map, List.length, List.replicate, List.cons_append, List.nil_append, ↓W_dt, ↓W_fld, ↓W_meth, ↓W_make, ↓MkW_n, ↓W_popl, ↓W_setf, ↓W_augx, ↓W_asgM, ↓Gam_ncl, ↓EnW_l, ↓EnW_s, ↓EnW_n, ↓EnW_f, ↓EnW_b, ↓LG_rng, ↓LG_seq, ↓LG_enum, ↓LG_zip, ↓LG_str, ↓LG_seqR, ↓LG_enumR, ↓I3W_f, ↓I3W_b, ↓InW_s, ↓FdW_v, ↓FdW_o, ↓FdW_d, ↓InB_s, ↓D_fld, ↓D_meth, ↓D_setf, ↓SO_v, ↓SO_n, ↓SO_nf, ↓SO_d, ↓sq_f, ↓live_f, ↓live_b, ↓D_lenF, ↓D_ixF, ↓D_appF, ↓D_setF, ↓D_poplF, ↓D_lofF, ↓tp0, ↓tpS, ↓bh_f, ↓CG_rng, ↓CG_seq, ↓CG_enum, ↓CG_zip, ↓CG_str, ↓CG_seqR, ↓CG_enumR, ↓W_var, ↓W_cst, ↓W_glob, ↓W_bin, ↓W_cmp, ↓W_ix, ↓W_un, ↓W_blt, ↓W_blt2, ↓W_isi, ↓W_bits, ↓W_idx, ↓W_find, ↓W_pop, ↓W_dnew, ↓W_dix, ↓W_din, ↓W_sset, ↓D_sset, ↓W_lrg1, ↓W_lrg2, ↓W_dput, ↓StW_s, ↓ViW_i, ↓VaW_v, ↓SlW_d, ↓bh_nd, ↓OdW_s, ↓LnW_o, ↓LnW_d, ↓D_pop, ↓D_dixI, ↓D_dixS, ↓D_dinI, ↓D_dinS, ↓D_dputI, ↓D_dputS, ↓D_find, ↓D_lrg, ↓W_enum, ↓W_zip, ↓W_istr, ↓lstP_l, ↓lstP_s, ↓lstP_n, ↓lstQ_l, ↓W_revl, ↓W_revs, ↓W_sl, ↓W_bind, ↓W_partT, ↓W_partF, ↓PaW_i, ↓D_list, ↓D_tuple, ↓D_sum, ↓D_sorted, ↓D_maxl, ↓D_minl, ↓D_str, ↓D_bits, ↓D_revS, ↓D_revL, ↓D_revN, ↓seq_t, ↓seq_l, ↓seq_s, ↓seq_n, ↓seq_b, ↓seq_o, ↓ints_n, ↓ints_l, ↓inta_n, ↓inta_l, ↓inta_t, ↓W_exi, ↓W_chain, ↓W_not, ↓W_and, ↓W_or, ↓W_ife, ↓W_tup, ↓W_lst, ↓W_call, ↓W_frz, ↓W_mkbox, ↓W_app, ↓W_enil, ↓W_econs, ↓W_rng1, ↓W_rng2, ↓W_seq, ↓W_asg, ↓W_asgO, ↓W_asgT, ↓W_aug, ↓W_setix, ↓W_expr, ↓W_ret, ↓W_retN, ↓W_pass, ↓W_brk, ↓W_cont, ↓W_raise, ↓W_if, ↓W_for, ↓W_nil, ↓W_cons, ↓W_try, ↓W_ok, ↓W_exc, ↓WC_ok, ↓WC_exc, ↓WK_ok, ↓WK_exc, ↓TW_b, ↓DW_v, ↓DW_n, ↓IT_t, ↓IT_f, ↓IT_dt, ↓IT_df, IT_dt, IT_df, ↓IT_e1, ↓IT_e2, ↓IT_e3, ↓IT_e4, ↓IT_n, ↓IT_a, ↓SlW_v, ↓SlW_o, ↓OW_s, ↓FW_nx, ↓FW_rt, ↓FW_bk, ↓FW_ct, ↓RW_v, ↓RW_n, ↓RW_o, ↓bh_v, ↓bh_n, ↓bh_o, ↓Gam_glob, ↓D_add, ↓D_sub, ↓D_mul, ↓D_fdiv, ↓D_mod, ↓D_band, ↓D_bor, ↓D_bxor, ↓D_shl, ↓D_shr, ↓D_lt, ↓D_le, ↓D_gt, ↓D_ge, ↓D_eqi, ↓D_nei, ↓D_eqb, ↓D_eqll, ↓D_nell, ↓D_eqnn, ↓D_nenn, ↓D_eqnl, ↓D_nenl, ↓D_eqln, ↓D_neln, ↓D_eqtt, ↓D_nett, ↓D_ill, ↓D_itt, ↓D_neb, ↓D_isN, ↓D_inN, ↓D_isi1, ↓D_ini1, ↓D_ist1, ↓D_int1, ↓D_isl1, ↓D_inl1, ↓D_isn1, ↓D_inn1, ↓D_isb1, ↓D_inb1, ↓D_neg, ↓D_abs, ↓D_int, ↓D_intb, ↓D_lenT, ↓D_lenL, ↓D_lenS, ↓D_lenN, ↓D_lenB, ↓D_lenO, ↓D_max, ↓D_min, ↓D_ixT, ↓D_ixL, ↓D_ixS, ↓D_ixN, ↓D_ixB, ↓D_ixO, ↓D_setB, ↓D_setO, ↓D_appO, ↓D_lof, ↓D_catNN, ↓D_catNL, ↓D_catLN, ↓D_catLL, ↓D_ii, ↓D_ib, ↓D_bi, ↓D_bb, ↓BW_s, ↓OnW_s, ↓OnB_s, ↓VW_rv, ↓VW_rn, ↓VW_nx, ↓RV_rv, ↓at0, ↓at1, ↓at2, ↓at3, ↓Au_add, ↓Au_sub, ↓Au_bor, ↓Au_mul, ↓sT0, ↓sTS, ↓I1W_i, ↓I2W_i, ↓I3W_l, ↓I3W_s, ↓I3W_t, ↓I3W_n, ↓stepQ_nx, ↓stepQ_ct, ↓stepQ_bk, ↓stepQ_rt, ↓sE, ↓eg0, ↓egS, ↓st0, ↓stS, ↓true_and, ↓and_true, ↓eq_self, ↓isF_v, ↓isF_n, ↓decide_true, ↓decide_false, ↓Bool.not_true, ↓Bool.not_false, List.set_cons_zero, List.set_cons_succ, at4, at5, at6, at7, nAdd, nAddR, nAddL, nMul, nMulR, nMulL, nSub, nSubR, nSubL, nDiv, nDivR, nDivL, nMod, nModR, nBandR, nBorR, nBorL, nShl, nShlL, nShr, nToNat, nMin, nMax, Int.toNat_natCast, band_nat, bor_nat, Nat.zero_add, natsD_len, cls_app]
      exact ⟨by omega, _, _, o4, by rw [e2]⟩
  · rintro st ⟨s3, s4, o4, rfl⟩
    simp -implicitDefEqProofs -dsimp (disch := omega) only [bLB1, List.map, List.length, List.replicate, List.cons_append, List.nil_append, ↓W_dt, ↓W_fld, ↓W_meth, ↓W_make, ↓MkW_n, ↓W_popl, ↓W_setf, ↓W_augx, ↓W_asgM, ↓Gam_ncl, ↓EnW_l, ↓EnW_s, ↓EnW_n, ↓EnW_f, ↓EnW_b, ↓LG_rng, ↓LG_seq, ↓LG_enum, ↓LG_zip, ↓LG_str, ↓LG_seqR, ↓LG_enumR, ↓I3W_f, ↓I3W_b, ↓InW_s, ↓FdW_v, ↓FdW_o, ↓FdW_d, ↓InB_s, ↓D_fld, ↓D_meth, ↓D_setf, ↓SO_v, ↓SO_n, ↓SO_nf, ↓SO_d, ↓sq_f, ↓live_f, ↓live_b, ↓D_lenF, ↓D_ixF, ↓D_appF, ↓D_setF, ↓D_poplF, ↓D_lofF, ↓tp0, ↓tpS, ↓bh_f, ↓CG_rng, ↓CG_seq, ↓CG_enum, ↓CG_zip, ↓CG_str, ↓CG_seqR, ↓CG_enumR, ↓W_var, ↓W_cst, ↓W_glob, ↓W_bin, ↓W_cmp, ↓W_ix, ↓W_un, ↓W_blt, ↓W_blt2, ↓W_isi, ↓W_bits, ↓W_idx, ↓W_find, ↓W_pop, ↓W_dnew, ↓W_dix, ↓W_din, ↓W_sset, ↓D_sset, ↓W_lrg1, ↓W_lrg2, ↓W_dput, ↓StW_s, ↓ViW_i, ↓VaW_v, ↓SlW_d, ↓bh_nd, ↓OdW_s, ↓LnW_o, ↓LnW_d, ↓D_pop, ↓D_dixI, ↓D_dixS, ↓D_dinI, ↓D_dinS, ↓D_dputI, ↓D_dputS, ↓D_find, ↓D_lrg, ↓W_enum, ↓W_zip, ↓W_istr, ↓lstP_l, ↓lstP_s, ↓lstP_n, ↓lstQ_l, ↓W_revl, ↓W_revs, ↓W_sl, ↓W_bind, ↓W_partT, ↓W_partF, ↓PaW_i, ↓D_list, ↓D_tuple, ↓D_sum, ↓D_sorted, ↓D_maxl, ↓D_minl, ↓D_str, ↓D_bits, ↓D_revS, ↓D_revL, ↓D_revN, ↓seq_t, ↓seq_l, ↓seq_s, ↓seq_n, ↓seq_b, ↓seq_o, ↓ints_n, ↓ints_l, ↓inta_n, ↓inta_l, ↓inta_t, ↓W_exi, ↓W_chain, ↓W_not, ↓W_and, ↓W_or, ↓W_ife, ↓W_tup, ↓W_lst, ↓W_call, ↓W_frz, ↓W_mkbox, ↓W_app, ↓W_enil, ↓W_econs, ↓W_rng1, ↓W_rng2, ↓W_seq, ↓W_asg, ↓W_asgO, ↓W_asgT, ↓W_aug, ↓W_setix, ↓W_expr, ↓W_ret, ↓W_retN, ↓W_pass, ↓W_brk, ↓W_cont, ↓W_raise, ↓W_if, ↓W_for, ↓W_nil, ↓W_cons, ↓W_try, ↓W_ok, ↓W_exc, ↓WC_ok, ↓WC_exc, ↓WK_ok, ↓WK_exc, ↓TW_b, ↓DW_v, ↓DW_n, ↓IT_t, ↓IT_f, ↓IT_dt, ↓IT_df, IT_dt, IT_df, ↓IT_e1, ↓IT_e2, ↓IT_e3, ↓IT_e4, ↓IT_n, ↓IT_a, ↓SlW_v, ↓SlW_o, ↓OW_s, ↓FW_nx, ↓FW_rt, ↓FW_bk, ↓FW_ct, ↓RW_v, ↓RW_n, ↓RW_o, ↓bh_v, ↓bh_n, ↓bh_o, ↓Gam_glob, ↓D_add, ↓D_sub, ↓D_mul, ↓D_fdiv, ↓D_mod, ↓D_band, ↓D_bor, ↓D_bxor, ↓D_shl, ↓D_shr, ↓D_lt, ↓D_le, ↓D_gt, ↓D_ge, ↓D_eqi, ↓D_nei, ↓D_eqb, ↓D_eqll, ↓D_nell, ↓D_eqnn, ↓D_nenn, ↓D_eqnl, ↓D_nenl, ↓D_eqln, ↓D_neln, ↓D_eqtt, ↓D_nett, ↓D_ill, ↓D_itt, ↓D_neb, ↓D_isN, ↓D_inN, ↓D_isi1, ↓D_ini1, ↓D_ist1, ↓D_int1, ↓D_isl1, ↓D_inl1, ↓D_isn1, ↓D_inn1, ↓D_isb1, ↓D_inb1, ↓D_neg, ↓D_abs, ↓D_int, ↓D_intb, ↓D_lenT, ↓D_lenL, ↓D_lenS, ↓D_lenN, ↓D_lenB, ↓D_lenO, ↓D_max, ↓D_min, ↓D_ixT, ↓D_ixL, ↓D_ixS, ↓D_ixN, ↓D_ixB, ↓D_ixO, ↓D_setB, ↓D_setO, ↓D_appO, ↓D_lof, ↓D_catNN, ↓D_catNL, ↓D_catLN, ↓D_catLL, ↓D_ii, ↓D_ib, ↓D_bi, ↓D_bb, ↓BW_s, ↓OnW_s, ↓OnB_s, ↓VW_rv, ↓VW_rn, ↓VW_nx, ↓RV_rv, ↓at0, ↓at1, ↓at2, ↓at3, ↓Au_add, ↓Au_sub, ↓Au_bor, ↓Au_mul, ↓sT0, ↓sTS, ↓I1W_i, ↓I2W_i, ↓I3W_l, ↓I3W_s, ↓I3W_t, ↓I3W_n, ↓stepQ_nx, ↓stepQ_ct, ↓stepQ_bk, ↓stepQ_rt, ↓sE, ↓eg0, ↓egS, ↓st0, ↓stS, ↓true_and, ↓and_true, ↓eq_self, ↓isF_v, ↓isF_n, ↓decide_true, ↓decide_false, ↓Bool.not_true, ↓Bool.not_false, List.set_cons_zero, List.set_cons_succ, at4, at5, at6, at7, nAdd, nAddR, nAddL, nMul, nMulR, nMulL, nSub, nSubR, nSubL, nDiv, nDivR, nDivL, nMod, nModR, nBandR, nBorR, nBorL, nShl, nShlL, nShr, nToNat, nMin, nMax, Int.toNat_natCast, band_nat, bor_nat, Nat.zero_add, natsD_len]
    rw [Nat.add_sub_cancel]; rfl
theorem take_get {α : Type} (cs : List α) (i : Nat) (c : α) (h : cs[i]? = some c) : cs.take (i + 1) = cs.take i ++ [c] := by
  rw [List.take_add_one, h]; rfl
include A in
theorem lad_run (hk : 0 < k) (hT : T[m]? = some (.lst (clsD cs))) (hl : cs.length ≤ 1000) : run p k A.fd ro [.box m] T = .ok (.val (.bl (doneN cs))) T := by
  have zl : sizeLine = 16777216 := rfl
  have lc := clsD_len cs
  have ep : Dt.tup [.str "pass"] = Cl.pass.dt := rfl
  refine WC_eq (WC_run (by rw [A.ad]; rfl) A.hd hk ?_)
  simp -implicitDefEqProofs -dsimp (disch := omega) only [bLD, List.map, List.length, List.replicate, List.cons_append, List.nil_append, ↓W_dt, ↓W_fld, ↓W_meth, ↓W_make, ↓MkW_n, ↓W_popl, ↓W_setf, ↓W_augx, ↓W_asgM, ↓Gam_ncl, ↓EnW_l, ↓EnW_s, ↓EnW_n, ↓EnW_f, ↓EnW_b, ↓LG_rng, ↓LG_seq, ↓LG_enum, ↓LG_zip, ↓LG_str, ↓LG_seqR, ↓LG_enumR, ↓I3W_f, ↓I3W_b, ↓InW_s, ↓FdW_v, ↓FdW_o, ↓FdW_d, ↓InB_s, ↓D_fld, ↓D_meth, ↓D_setf, ↓SO_v, ↓SO_n, ↓SO_nf, ↓SO_d, ↓sq_f, ↓live_f, ↓live_b, ↓D_lenF, ↓D_ixF, ↓D_appF, ↓D_setF, ↓D_poplF, ↓D_lofF, ↓tp0, ↓tpS, ↓bh_f, ↓CG_rng, ↓CG_seq, ↓CG_enum, ↓CG_zip, ↓CG_str, ↓CG_seqR, ↓CG_enumR, ↓W_var, ↓W_cst, ↓W_glob, ↓W_bin, ↓W_cmp, ↓W_ix, ↓W_un, ↓W_blt, ↓W_blt2, ↓W_isi, ↓W_bits, ↓W_idx, ↓W_find, ↓W_pop, ↓W_dnew, ↓W_dix, ↓W_din, ↓W_sset, ↓D_sset, ↓W_lrg1, ↓W_lrg2, ↓W_dput, ↓StW_s, ↓ViW_i, ↓VaW_v, ↓SlW_d, ↓bh_nd, ↓OdW_s, ↓LnW_o, ↓LnW_d, ↓D_pop, ↓D_dixI, ↓D_dixS, ↓D_dinI, ↓D_dinS, ↓D_dputI, ↓D_dputS, ↓D_find, ↓D_lrg, ↓W_enum, ↓W_zip, ↓W_istr, ↓lstP_l, ↓lstP_s, ↓lstP_n, ↓lstQ_l, ↓W_revl, ↓W_revs, ↓W_sl, ↓W_bind, ↓W_partT, ↓W_partF, ↓PaW_i, ↓D_list, ↓D_tuple, ↓D_sum, ↓D_sorted, ↓D_maxl, ↓D_minl, ↓D_str, ↓D_bits, ↓D_revS, ↓D_revL, ↓D_revN, ↓seq_t, ↓seq_l, ↓seq_s, ↓seq_n, ↓seq_b, ↓seq_o, ↓ints_n, ↓ints_l, ↓inta_n, ↓inta_l, ↓inta_t, ↓W_exi, ↓W_chain, ↓W_not, ↓W_and, ↓W_or, ↓W_ife, ↓W_tup, ↓W_lst, ↓W_call, ↓W_frz, ↓W_mkbox, ↓W_app, ↓W_enil, ↓W_econs, ↓W_rng1, ↓W_rng2, ↓W_seq, ↓W_asg, ↓W_asgO, ↓W_asgT, ↓W_aug, ↓W_setix, ↓W_expr, ↓W_ret, ↓W_retN, ↓W_pass, ↓W_brk, ↓W_cont, ↓W_raise, ↓W_if, ↓W_for, ↓W_nil, ↓W_cons, ↓W_try, ↓W_ok, ↓W_exc, ↓WC_ok, ↓WC_exc, ↓WK_ok, ↓WK_exc, ↓TW_b, ↓DW_v, ↓DW_n, ↓IT_t, ↓IT_f, ↓IT_dt, ↓IT_df, IT_dt, IT_df, ↓IT_e1, ↓IT_e2, ↓IT_e3, ↓IT_e4, ↓IT_n, ↓IT_a, ↓SlW_v, ↓SlW_o, ↓OW_s, ↓FW_nx, ↓FW_rt, ↓FW_bk, ↓FW_ct, ↓RW_v, ↓RW_n, ↓RW_o, ↓bh_v, ↓bh_n, ↓bh_o, ↓Gam_glob, ↓D_add, ↓D_sub, ↓D_mul, ↓D_fdiv, ↓D_mod, ↓D_band, ↓D_bor, ↓D_bxor, ↓D_shl, ↓D_shr, ↓D_lt, ↓D_le, ↓D_gt, ↓D_ge, ↓D_eqi, ↓D_nei, ↓D_eqb, ↓D_eqll, ↓D_nell, ↓D_eqnn, ↓D_nenn, ↓D_eqnl, ↓D_nenl, ↓D_eqln, ↓D_neln, ↓D_eqtt, ↓D_nett, ↓D_ill, ↓D_itt, ↓D_neb, ↓D_isN, ↓D_inN, ↓D_isi1, ↓D_ini1, ↓D_ist1, ↓D_int1, ↓D_isl1, ↓D_inl1, ↓D_isn1, ↓D_inn1, ↓D_isb1, ↓D_inb1, ↓D_neg, ↓D_abs, ↓D_int, ↓D_intb, ↓D_lenT, ↓D_lenL, ↓D_lenS, ↓D_lenN, ↓D_lenB, ↓D_lenO, ↓D_max, ↓D_min, ↓D_ixT, ↓D_ixL, ↓D_ixS, ↓D_ixN, ↓D_ixB, ↓D_ixO, ↓D_setB, ↓D_setO, ↓D_appO, ↓D_lof, ↓D_catNN, ↓D_catNL, ↓D_catLN, ↓D_catLL, ↓D_ii, ↓D_ib, ↓D_bi, ↓D_bb, ↓BW_s, ↓OnW_s, ↓OnB_s, ↓VW_rv, ↓VW_rn, ↓VW_nx, ↓RV_rv, ↓at0, ↓at1, ↓at2, ↓at3, ↓Au_add, ↓Au_sub, ↓Au_bor, ↓Au_mul, ↓sT0, ↓sTS, ↓I1W_i, ↓I2W_i, ↓I3W_l, ↓I3W_s, ↓I3W_t, ↓I3W_n, ↓stepQ_nx, ↓stepQ_ct, ↓stepQ_bk, ↓stepQ_rt, ↓sE, ↓eg0, ↓egS, ↓st0, ↓stS, ↓true_and, ↓and_true, ↓eq_self, ↓isF_v, ↓isF_n, ↓decide_true, ↓decide_false, ↓Bool.not_true, ↓Bool.not_false, List.set_cons_zero, List.set_cons_succ, at4, at5, at6, at7, nAdd, nAddR, nAddL, nMul, nMulR, nMulL, nSub, nSubR, nSubL, nDiv, nDivR, nDivL, nMod, nModR, nBandR, nBorR, nBorL, nShl, nShlL, nShr, nToNat, nMin, nMax, Int.toNat_natCast, band_nat, bor_nat, Nat.zero_add, natsD_len, hT]
  refine W_loop_lstR (fun i st => ∃ s2 : Sl, st = ⟨[.val (.box m), .val (.int (trail (cs.take i) : Nat)), s2], T, true⟩) ⟨.none, rfl⟩ ?_ ?_
  · rintro i st d hd ⟨s2, rfl⟩
    rw [cls_get?] at hd
    cases e : cs[i]? with
    | none => rw [e] at hd; cases hd
    | some c =>
      rw [e] at hd
      cases hd
      have et := trail_snoc (cs.take i) c
      rw [← take_get cs i c e] at et
      rw [et]
      by_cases hc : c = .pass
      · simp -implicitDefEqProofs -dsimp (disch := omega) only [bLD2, List.map, List.length, List.replicate, List.cons_append, List.nil_append, ↓W_dt, ↓W_fld, ↓W_meth, ↓W_make, ↓MkW_n, ↓W_popl, ↓W_setf, ↓W_augx, ↓W_asgM, ↓Gam_ncl, ↓EnW_l, ↓EnW_s, ↓EnW_n, ↓EnW_f, ↓EnW_b, ↓LG_rng, ↓LG_seq, ↓LG_enum, ↓LG_zip, ↓LG_str, ↓LG_seqR, ↓LG_enumR, ↓I3W_f, ↓I3W_b, ↓InW_s, ↓FdW_v, ↓FdW_o, ↓FdW_d, ↓InB_s, ↓D_fld, ↓D_meth, ↓D_setf, ↓SO_v, ↓SO_n, ↓SO_nf, ↓SO_d, ↓sq_f, ↓live_f, ↓live_b, ↓D_lenF, ↓D_ixF, ↓D_appF, ↓D_setF, ↓D_poplF, ↓D_lofF, ↓tp0, ↓tpS, ↓bh_f, ↓CG_rng, ↓CG_seq, ↓CG_enum, ↓CG_zip, ↓CG_str, ↓CG_seqR, ↓CG_enumR, ↓W_var, ↓W_cst, ↓W_glob, ↓W_bin, ↓W_cmp, ↓W_ix, ↓W_un, ↓W_blt, ↓W_blt2, ↓W_isi, ↓W_bits, ↓W_idx, ↓W_find, ↓W_pop, ↓W_dnew, ↓W_dix, ↓W_din, ↓W_sset, ↓D_sset, ↓W_lrg1, ↓W_lrg2, ↓W_dput, ↓StW_s, ↓ViW_i, ↓VaW_v, ↓SlW_d, ↓bh_nd, ↓OdW_s, ↓LnW_o, ↓LnW_d, ↓D_pop, ↓D_dixI, ↓D_dixS, ↓D_dinI, ↓D_dinS, ↓D_dputI, ↓D_dputS, ↓D_find, ↓D_lrg, ↓W_enum, ↓W_zip, ↓W_istr, ↓lstP_l, ↓lstP_s, ↓lstP_n, ↓lstQ_l, ↓W_revl, ↓W_revs, ↓W_sl, ↓W_bind, ↓W_partT, ↓W_partF, ↓PaW_i, ↓D_list, ↓D_tuple, ↓D_sum, ↓D_sorted, ↓D_maxl, ↓D_minl, ↓D_str, ↓D_bits, ↓D_revS, ↓D_revL, ↓D_revN, ↓seq_t, ↓seq_l, ↓seq_s, ↓seq_n, ↓seq_b, ↓seq_o, ↓ints_n, ↓ints_l, ↓inta_n, ↓inta_l, ↓inta_t, ↓W_exi, ↓W_chain, ↓W_not, ↓W_and, ↓W_or, ↓W_ife, ↓W_tup, ↓W_lst, ↓W_call, ↓W_frz, ↓W_mkbox, ↓W_app, ↓W_enil, ↓W_econs, ↓W_rng1, ↓W_rng2, ↓W_seq, ↓W_asg, ↓W_asgO, ↓W_asgT, ↓W_aug, ↓W_setix, ↓W_expr, ↓W_ret, ↓W_retN, ↓W_pass, ↓W_brk, ↓W_cont, ↓W_raise, ↓W_if, ↓W_for, ↓W_nil, ↓W_cons, ↓W_try, ↓W_ok, ↓W_exc, ↓WC_ok, ↓WC_exc, ↓WK_ok, ↓WK_exc, ↓TW_b, ↓DW_v, ↓DW_n, ↓IT_t, ↓IT_f, ↓IT_dt, ↓IT_df, IT_dt, IT_df, ↓IT_e1, ↓IT_e2, ↓IT_e3, ↓IT_e4, ↓IT_n, ↓IT_a, ↓SlW_v, ↓SlW_o, ↓OW_s, ↓FW_nx, ↓FW_rt, ↓FW_bk, ↓FW_ct, ↓RW_v, ↓RW_n, ↓RW_o, ↓bh_v, ↓bh_n, ↓bh_o, ↓Gam_glob, ↓D_add, ↓D_sub, ↓D_mul, ↓D_fdiv, ↓D_mod, ↓D_band, ↓D_bor, ↓D_bxor, ↓D_shl, ↓D_shr, ↓D_lt, ↓D_le, ↓D_gt, ↓D_ge, ↓D_eqi, ↓D_nei, ↓D_eqb, ↓D_eqll, ↓D_nell, ↓D_eqnn, ↓D_nenn, ↓D_eqnl, ↓D_nenl, ↓D_eqln, ↓D_neln, ↓D_eqtt, ↓D_nett, ↓D_ill, ↓D_itt, ↓D_neb, ↓D_isN, ↓D_inN, ↓D_isi1, ↓D_ini1, ↓D_ist1, ↓D_int1, ↓D_isl1, ↓D_inl1, ↓D_isn1, ↓D_inn1, ↓D_isb1, ↓D_inb1, ↓D_neg, ↓D_abs, ↓D_int, ↓D_intb, ↓D_lenT, ↓D_lenL, ↓D_lenS, ↓D_lenN, ↓D_lenB, ↓D_lenO, ↓D_max, ↓D_min, ↓D_ixT, ↓D_ixL, ↓D_ixS, ↓D_ixN, ↓D_ixB, ↓D_ixO, ↓D_setB, ↓D_setO, ↓D_appO, ↓D_lof, ↓D_catNN, ↓D_catNL, ↓D_catLN, ↓D_catLL, ↓D_ii, ↓D_ib, ↓D_bi, ↓D_bb, ↓BW_s, ↓OnW_s, ↓OnB_s, ↓VW_rv, ↓VW_rn, ↓VW_nx, ↓RV_rv, ↓at0, ↓at1, ↓at2, ↓at3, ↓Au_add, ↓Au_sub, ↓Au_bor, ↓Au_mul, ↓sT0, ↓sTS, ↓I1W_i, ↓I2W_i, ↓I3W_l, ↓I3W_s, ↓I3W_t, ↓I3W_n, ↓stepQ_nx, ↓stepQ_ct, ↓stepQ_bk, ↓stepQ_rt, ↓sE, ↓eg0, ↓egS, ↓st0, ↓stS, ↓true_and, ↓and_true, ↓eq_self, ↓isF_v, ↓isF_n, ↓decide_true, ↓decide_false, ↓Bool.not_true, ↓Bool.not_false, List.set_cons_zero, List.set_cons_succ, at4, at5, at6, at7, nAdd, nAddR, nAddL, nMul, nMulR, nMulL, nSub, nSubR, nSubL, nDiv, nDivR, nDivL, nMod, nModR, nBandR, nBorR, nBorL, nShl, nShlL, nShr, nToNat, nMin, nMax, Int.toNat_natCast, band_nat, bor_nat, Nat.zero_add, natsD_len, ep, ↓D_eqC, decide_eq_true hc, if_true]
        rw [if_pos hc]
        exact ⟨by decide, by omega, _, rfl⟩
      · simp -implicitDefEqProofs -dsimp (disch := omega) only [bLD2, List.map, List.length, List.replicate, List.cons_append, List.nil_append, ↓W_dt, ↓W_fld, ↓W_meth, ↓W_make, ↓MkW_n, ↓W_popl, ↓W_setf, ↓W_augx, ↓W_asgM, ↓Gam_ncl, ↓EnW_l, ↓EnW_s, ↓EnW_n, ↓EnW_f, ↓EnW_b, ↓LG_rng, ↓LG_seq, ↓LG_enum, ↓LG_zip, ↓LG_str, ↓LG_seqR, ↓LG_enumR, ↓I3W_f, ↓I3W_b, ↓InW_s, ↓FdW_v, ↓FdW_o, ↓FdW_d, ↓InB_s, ↓D_fld, ↓D_meth, ↓D_setf, ↓SO_v, ↓SO_n, ↓SO_nf, ↓SO_d, ↓sq_f, ↓live_f, ↓live_b, ↓D_lenF, ↓D_ixF, ↓D_appF, ↓D_setF, ↓D_poplF, ↓D_lofF, ↓tp0, ↓tpS, ↓bh_f, ↓CG_rng, ↓CG_seq, ↓CG_enum, ↓CG_zip, ↓CG_str, ↓CG_seqR, ↓CG_enumR, ↓W_var, ↓W_cst, ↓W_glob, ↓W_bin, ↓W_cmp, ↓W_ix, ↓W_un, ↓W_blt, ↓W_blt2, ↓W_isi, ↓W_bits, ↓W_idx, ↓W_find, ↓W_pop, ↓W_dnew, ↓W_dix, ↓W_din, ↓W_sset, ↓D_sset, ↓W_lrg1, ↓W_lrg2, ↓W_dput, ↓StW_s, ↓ViW_i, ↓VaW_v, ↓SlW_d, ↓bh_nd, ↓OdW_s, ↓LnW_o, ↓LnW_d, ↓D_pop, ↓D_dixI, ↓D_dixS, ↓D_dinI, ↓D_dinS, ↓D_dputI, ↓D_dputS, ↓D_find, ↓D_lrg, ↓W_enum, ↓W_zip, ↓W_istr, ↓lstP_l, ↓lstP_s, ↓lstP_n, ↓lstQ_l, ↓W_revl, ↓W_revs, ↓W_sl, ↓W_bind, ↓W_partT, ↓W_partF, ↓PaW_i, ↓D_list, ↓D_tuple, ↓D_sum, ↓D_sorted, ↓D_maxl, ↓D_minl, ↓D_str, ↓D_bits, ↓D_revS, ↓D_revL, ↓D_revN, ↓seq_t, ↓seq_l, ↓seq_s, ↓seq_n, ↓seq_b, ↓seq_o, ↓ints_n, ↓ints_l, ↓inta_n, ↓inta_l, ↓inta_t, ↓W_exi, ↓W_chain, ↓W_not, ↓W_and, ↓W_or, ↓W_ife, ↓W_tup, ↓W_lst, ↓W_call, ↓W_frz, ↓W_mkbox, ↓W_app, ↓W_enil, ↓W_econs, ↓W_rng1, ↓W_rng2, ↓W_seq, ↓W_asg, ↓W_asgO, ↓W_asgT, ↓W_aug, ↓W_setix, ↓W_expr, ↓W_ret, ↓W_retN, ↓W_pass, ↓W_brk, ↓W_cont, ↓W_raise, ↓W_if, ↓W_for, ↓W_nil, ↓W_cons, ↓W_try, ↓W_ok, ↓W_exc, ↓WC_ok, ↓WC_exc, ↓WK_ok, ↓WK_exc, ↓TW_b, ↓DW_v, ↓DW_n, ↓IT_t, ↓IT_f, ↓IT_dt, ↓IT_df, IT_dt, IT_df, ↓IT_e1, ↓IT_e2, ↓IT_e3, ↓IT_e4, ↓IT_n, ↓IT_a, ↓SlW_v, ↓SlW_o, ↓OW_s, ↓FW_nx, ↓FW_rt, ↓FW_bk, ↓FW_ct, ↓RW_v, ↓RW_n, ↓RW_o, ↓bh_v, ↓bh_n, ↓bh_o, ↓Gam_glob, ↓D_add, ↓D_sub, ↓D_mul, ↓D_fdiv, ↓D_mod, ↓D_band, ↓D_bor, ↓D_bxor, ↓D_shl, ↓D_shr, ↓D_lt, ↓D_le, ↓D_gt, ↓D_ge, ↓D_eqi, ↓D_nei, ↓D_eqb, ↓D_eqll, ↓D_nell, ↓D_eqnn, ↓D_nenn, ↓D_eqnl, ↓D_nenl, ↓D_eqln, ↓D_neln, ↓D_eqtt, ↓D_nett, ↓D_ill, ↓D_itt, ↓D_neb, ↓D_isN, ↓D_inN, ↓D_isi1, ↓D_ini1, ↓D_ist1, ↓D_int1, ↓D_isl1, ↓D_inl1, ↓D_isn1, ↓D_inn1, ↓D_isb1, ↓D_inb1, ↓D_neg, ↓D_abs, ↓D_int, ↓D_intb, ↓D_lenT, ↓D_lenL, ↓D_lenS, ↓D_lenN, ↓D_lenB, ↓D_lenO, ↓D_max, ↓D_min, ↓D_ixT, ↓D_ixL, ↓D_ixS, ↓D_ixN, ↓D_ixB, ↓D_ixO, ↓D_setB, ↓D_setO, ↓D_appO, ↓D_lof, ↓D_catNN, ↓D_catNL, ↓D_catLN, ↓D_catLL, ↓D_ii, ↓D_ib, ↓D_bi, ↓D_bb, ↓BW_s, ↓OnW_s, ↓OnB_s, ↓VW_rv, ↓VW_rn, ↓VW_nx, ↓RV_rv, ↓at0, ↓at1, ↓at2, ↓at3, ↓Au_add, ↓Au_sub, ↓Au_bor, ↓Au_mul, ↓sT0, ↓sTS, ↓I1W_i, ↓I2W_i, ↓I3W_l, ↓I3W_s, ↓I3W_t, ↓I3W_n, ↓stepQ_nx, ↓stepQ_ct, ↓stepQ_bk, ↓stepQ_rt, ↓sE, ↓eg0, ↓egS, ↓st0, ↓stS, ↓true_and, ↓and_true, ↓eq_self, ↓isF_v, ↓isF_n, ↓decide_true, ↓decide_false, ↓Bool.not_true, ↓Bool.not_false, List.set_cons_zero, List.set_cons_succ, at4, at5, at6, at7, nAdd, nAddR, nAddL, nMul, nMulR, nMulL, nSub, nSubR, nSubL, nDiv, nDivR, nDivL, nMod, nModR, nBandR, nBorR, nBorL, nShl, nShlL, nShr, nToNat, nMin, nMax, Int.toNat_natCast, band_nat, bor_nat, Nat.zero_add, natsD_len, ep, ↓D_eqC, decide_eq_false hc, Bool.false_eq_true, if_false]
        rw [if_neg hc]
        exact ⟨by decide, by omega, _, rfl⟩
  · rintro st ⟨s2, rfl⟩
    rw [lc, List.take_length]
    unfold doneN
    generalize trail cs = t
    have e3 : decide ((3 : Int) < (cs.length : Nat)) = decide (3 < cs.length) := decide_eq_decide.2 (by omega)
    by_cases h4 : t = 4
    · subst h4
      simp -implicitDefEqProofs -dsimp (disch := omega) only [bLD1, List.map, List.length, List.replicate, List.cons_append, List.nil_append, ↓W_dt, ↓W_fld, ↓W_meth, ↓W_make, ↓MkW_n, ↓W_popl, ↓W_setf, ↓W_augx, ↓W_asgM, ↓Gam_ncl, ↓EnW_l, ↓EnW_s, ↓EnW_n, ↓EnW_f, ↓EnW_b, ↓LG_rng, ↓LG_seq, ↓LG_enum, ↓LG_zip, ↓LG_str, ↓LG_seqR, ↓LG_enumR, ↓I3W_f, ↓I3W_b, ↓InW_s, ↓FdW_v, ↓FdW_o, ↓FdW_d, ↓InB_s, ↓D_fld, ↓D_meth, ↓D_setf, ↓SO_v, ↓SO_n, ↓SO_nf, ↓SO_d, ↓sq_f, ↓live_f, ↓live_b, ↓D_lenF, ↓D_ixF, ↓D_appF, ↓D_setF, ↓D_poplF, ↓D_lofF, ↓tp0, ↓tpS, ↓bh_f, ↓CG_rng, ↓CG_seq, ↓CG_enum, ↓CG_zip, ↓CG_str, ↓CG_seqR, ↓CG_enumR, ↓W_var, ↓W_cst, ↓W_glob, ↓W_bin, ↓W_cmp, ↓W_ix, ↓W_un, ↓W_blt, ↓W_blt2, ↓W_isi, ↓W_bits, ↓W_idx, ↓W_find, ↓W_pop, ↓W_dnew, ↓W_dix, ↓W_din, ↓W_sset, ↓D_sset, ↓W_lrg1, ↓W_lrg2, ↓W_dput, ↓StW_s, ↓ViW_i, ↓VaW_v, ↓SlW_d, ↓bh_nd, ↓OdW_s, ↓LnW_o, ↓LnW_d, ↓D_pop, ↓D_dixI, ↓D_dixS, ↓D_dinI, ↓D_dinS, ↓D_dputI, ↓D_dputS, ↓D_find, ↓D_lrg, ↓W_enum, ↓W_zip, ↓W_istr, ↓lstP_l, ↓lstP_s, ↓lstP_n, ↓lstQ_l, ↓W_revl, ↓W_revs, ↓W_sl, ↓W_bind, ↓W_partT, ↓W_partF, ↓PaW_i, ↓D_list, ↓D_tuple, ↓D_sum, ↓D_sorted, ↓D_maxl, ↓D_minl, ↓D_str, ↓D_bits, ↓D_revS, ↓D_revL, ↓D_revN, ↓seq_t, ↓seq_l, ↓seq_s, ↓seq_n, ↓seq_b, ↓seq_o, ↓ints_n, ↓ints_l, ↓inta_n, ↓inta_l, ↓inta_t, ↓W_exi, ↓W_chain, ↓W_not, ↓W_and, ↓W_or, ↓W_ife, ↓W_tup, ↓W_lst, ↓W_call, ↓W_frz, ↓W_mkbox, ↓W_app, ↓W_enil, ↓W_econs, ↓W_rng1, ↓W_rng2, ↓W_seq, ↓W_asg, ↓W_asgO, ↓W_asgT, ↓W_aug, ↓W_setix, ↓W_expr, ↓W_ret, ↓W_retN, ↓W_pass, ↓W_brk, ↓W_cont, ↓W_raise, ↓W_if, ↓W_for, ↓W_nil, ↓W_cons, ↓W_try, ↓W_ok, ↓W_exc, ↓WC_ok, ↓WC_exc, ↓WK_ok, ↓WK_exc, ↓TW_b, ↓DW_v, ↓DW_n, ↓IT_t, ↓IT_f, ↓IT_dt, ↓IT_df, IT_dt, IT_df, ↓IT_e1, ↓IT_e2, ↓IT_e3, ↓IT_e4, ↓IT_n, ↓IT_a, ↓SlW_v, ↓SlW_o, ↓OW_s, ↓FW_nx, ↓FW_rt, ↓FW_bk, ↓FW_ct, ↓RW_v, ↓RW_n, ↓RW_o, ↓bh_v, ↓bh_n, ↓bh_o, ↓Gam_glob, ↓D_add, ↓D_sub, ↓D_mul, ↓D_fdiv, ↓D_mod, ↓D_band, ↓D_bor, ↓D_bxor, ↓D_shl, ↓D_shr, ↓D_lt, ↓D_le, ↓D_gt, ↓D_ge, ↓D_eqi, ↓D_nei, ↓D_eqb, ↓D_eqll, ↓D_nell, ↓D_eqnn, ↓D_nenn, ↓D_eqnl, ↓D_nenl, ↓D_eqln, ↓D_neln, ↓D_eqtt, ↓D_nett, ↓D_ill, ↓D_itt, ↓D_neb, ↓D_isN, ↓D_inN, ↓D_isi1, ↓D_ini1, ↓D_ist1, ↓D_int1, ↓D_isl1, ↓D_inl1, ↓D_isn1, ↓D_inn1, ↓D_isb1, ↓D_inb1, ↓D_neg, ↓D_abs, ↓D_int, ↓D_intb, ↓D_lenT, ↓D_lenL, ↓D_lenS, ↓D_lenN, ↓D_lenB, ↓D_lenO, ↓D_max, ↓D_min, ↓D_ixT, ↓D_ixL, ↓D_ixS, ↓D_ixN, ↓D_ixB, ↓D_ixO, ↓D_setB, ↓D_setO, ↓D_appO, ↓D_lof, ↓D_catNN, ↓D_catNL, ↓D_catLN, ↓D_catLL, ↓D_ii, ↓D_ib, ↓D_bi, ↓D_bb, ↓BW_s, ↓OnW_s, ↓OnB_s, ↓VW_rv, ↓VW_rn, ↓VW_nx, ↓RV_rv, ↓at0, ↓at1, ↓at2, ↓at3, ↓Au_add, ↓Au_sub, ↓Au_bor, ↓Au_mul, ↓sT0, ↓sTS, ↓I1W_i, ↓I2W_i, ↓I3W_l, ↓I3W_s, ↓I3W_t, ↓I3W_n, ↓stepQ_nx, ↓stepQ_ct, ↓stepQ_bk, ↓stepQ_rt, ↓sE, ↓eg0, ↓egS, ↓st0, ↓stS, ↓true_and, ↓and_true, ↓eq_self, ↓isF_v, ↓isF_n, ↓decide_true, ↓decide_false, ↓Bool.not_true, ↓Bool.not_false, List.set_cons_zero, List.set_cons_succ, at4, at5, at6, at7, nAdd, nAddR, nAddL, nMul, nMulR, nMulL, nSub, nSubR, nSubL, nDiv, nDivR, nDivL, nMod, nModR, nBandR, nBorR, nBorL, nShl, nShlL, nShr, nToNat, nMin, nMax, Int.toNat_natCast, band_nat, bor_nat, Nat.zero_add, natsD_len, hT, lc]
      rfl
    · by_cases h3 : t = 3
      · subst h3
        simp -implicitDefEqProofs -dsimp (disch := omega) only [bLD1, List.map, List.length, List.replicate, List.cons_append, List.nil_append, ↓W_dt, ↓W_fld, ↓W_meth, ↓W_make, ↓MkW_n, ↓W_popl, ↓W_setf, ↓W_augx, ↓W_asgM, ↓Gam_ncl, ↓EnW_l, ↓EnW_s, ↓EnW_n, ↓EnW_f, ↓EnW_b, ↓LG_rng, ↓LG_seq, ↓LG_enum, ↓LG_zip, ↓LG_str, ↓LG_seqR, ↓LG_enumR, ↓I3W_f, ↓I3W_b, ↓InW_s, ↓FdW_v, ↓FdW_o, ↓FdW_d, ↓InB_s, ↓D_fld, ↓D_meth, ↓D_setf, ↓SO_v, ↓SO_n, ↓SO_nf, ↓SO_d, ↓sq_f, ↓live_f, ↓live_b, ↓D_lenF, ↓D_ixF, ↓D_appF, ↓D_setF, ↓D_poplF, ↓D_lofF, ↓tp0, ↓tpS, ↓bh_f, ↓CG_rng, ↓CG_seq, ↓CG_enum, ↓CG_zip, ↓CG_str, ↓CG_seqR, ↓CG_enumR, ↓W_var, ↓W_cst, ↓W_glob, ↓W_bin, ↓W_cmp, ↓W_ix, ↓W_un, ↓W_blt, ↓W_blt2, ↓W_isi, ↓W_bits, ↓W_idx, ↓W_find, ↓W_pop, ↓W_dnew, ↓W_dix, ↓W_din, ↓W_sset, ↓D_sset, ↓W_lrg1, ↓W_lrg2, ↓W_dput, ↓StW_s, ↓ViW_i, ↓VaW_v, ↓SlW_d, ↓bh_nd, ↓OdW_s, ↓LnW_o, ↓LnW_d, ↓D_pop, ↓D_dixI, ↓D_dixS, ↓D_dinI, ↓D_dinS, ↓D_dputI, ↓D_dputS, ↓D_find, ↓D_lrg, ↓W_enum, ↓W_zip, ↓W_istr, ↓lstP_l, ↓lstP_s, ↓lstP_n, ↓lstQ_l, ↓W_revl, ↓W_revs, ↓W_sl, ↓W_bind, ↓W_partT, ↓W_partF, ↓PaW_i, ↓D_list, ↓D_tuple, ↓D_sum, ↓D_sorted, ↓D_maxl, ↓D_minl, ↓D_str, ↓D_bits, ↓D_revS, ↓D_revL, ↓D_revN, ↓seq_t, ↓seq_l, ↓seq_s, ↓seq_n, ↓seq_b, ↓seq_o, ↓ints_n, ↓ints_l, ↓inta_n, ↓inta_l, ↓inta_t, ↓W_exi, ↓W_chain, ↓W_not, ↓W_and, ↓W_or, ↓W_ife, ↓W_tup, ↓W_lst, ↓W_call, ↓W_frz, ↓W_mkbox, ↓W_app, ↓W_enil, ↓W_econs, ↓W_rng1, ↓W_rng2, ↓W_seq, ↓W_asg, ↓W_asgO, ↓W_asgT, ↓W_aug, ↓W_setix, ↓W_expr, ↓W_ret, ↓W_retN, ↓W_pass, ↓W_brk, ↓W_cont, ↓W_raise, ↓W_if, ↓W_for, ↓W_nil, ↓W_cons, ↓W_try, ↓W_ok, ↓W_exc, ↓WC_ok, ↓WC_exc, ↓WK_ok, ↓WK_exc, ↓TW_b, ↓DW_v, ↓DW_n, ↓IT_t, ↓IT_f, ↓IT_dt, ↓IT_df, IT_dt, IT_df, ↓IT_e1, ↓IT_e2, ↓IT_e3, ↓IT_e4, ↓IT_n, ↓IT_a, ↓SlW_v, ↓SlW_o, ↓OW_s, ↓FW_nx, ↓FW_rt, ↓FW_bk, ↓FW_ct, ↓RW_v, ↓RW_n, ↓RW_o, ↓bh_v, ↓bh_n, ↓bh_o, ↓Gam_glob, ↓D_add, ↓D_sub, ↓D_mul, ↓D_fdiv, ↓D_mod, ↓D_band, ↓D_bor, ↓D_bxor, ↓D_shl, ↓D_shr, ↓D_lt, ↓D_le, ↓D_gt, ↓D_ge, ↓D_eqi, ↓D_nei, ↓D_eqb, ↓D_eqll, ↓D_nell, ↓D_eqnn, ↓D_nenn, ↓D_eqnl, ↓D_nenl, ↓D_eqln, ↓D_neln, ↓D_eqtt, ↓D_nett, ↓D_ill, ↓D_itt, ↓D_neb, ↓D_isN, ↓D_inN, ↓D_isi1, ↓D_ini1, ↓D_ist1, ↓D_int1, ↓D_isl1, ↓D_inl1, ↓D_isn1, ↓D_inn1, ↓D_isb1, ↓D_inb1, ↓D_neg, ↓D_abs, ↓D_int, ↓D_intb, ↓D_lenT, ↓D_lenL, ↓D_lenS, ↓D_lenN, ↓D_lenB, ↓D_lenO, ↓D_max, ↓D_min, ↓D_ixT, ↓D_ixL, ↓D_ixS, ↓D_ixN, ↓D_ixB, ↓D_ixO, ↓D_setB, ↓D_setO, ↓D_appO, ↓D_lof, ↓D_catNN, ↓D_catNL, ↓D_catLN, ↓D_catLL, ↓D_ii, ↓D_ib, ↓D_bi, ↓D_bb, ↓BW_s, ↓OnW_s, ↓OnB_s, ↓VW_rv, ↓VW_rn, ↓VW_nx, ↓RV_rv, ↓at0, ↓at1, ↓at2, ↓at3, ↓Au_add, ↓Au_sub, ↓Au_bor, ↓Au_mul, ↓sT0, ↓sTS, ↓I1W_i, ↓I2W_i, ↓I3W_l, ↓I3W_s, ↓I3W_t, ↓I3W_n, ↓stepQ_nx, ↓stepQ_ct, ↓stepQ_bk, ↓stepQ_rt, ↓sE, ↓eg0, ↓egS, ↓st0, ↓stS, ↓true_and, ↓and_true, ↓eq_self, ↓isF_v, ↓isF_n, ↓decide_true, ↓decide_false, ↓Bool.not_true, ↓Bool.not_false, List.set_cons_zero, List.set_cons_succ, at4, at5, at6, at7, nAdd, nAddR, nAddL, nMul, nMulR, nMulL, nSub, nSubR, nSubL, nDiv, nDivR, nDivL, nMod, nModR, nBandR, nBorR, nBorL, nShl, nShlL, nShr, nToNat, nMin, nMax, Int.toNat_natCast, band_nat, bor_nat, Nat.zero_add, natsD_len, hT, lc, e3]
        rfl
      · simp -implicitDefEqProofs -dsimp (disch := omega) only [bLD1, List.map, List.length, List.replicate, List.cons_append, List.nil_append, ↓W_dt, ↓W_fld, ↓W_meth, ↓W_make, ↓MkW_n, ↓W_popl, ↓W_setf, ↓W_augx, ↓W_asgM, ↓Gam_ncl, ↓EnW_l, ↓EnW_s, ↓EnW_n, ↓EnW_f, ↓EnW_b, ↓LG_rng, ↓LG_seq, ↓LG_enum, ↓LG_zip, ↓LG_str, ↓LG_seqR, ↓LG_enumR, ↓I3W_f, ↓I3W_b, ↓InW_s, ↓FdW_v, ↓FdW_o, ↓FdW_d, ↓InB_s, ↓D_fld, ↓D_meth, ↓D_setf, ↓SO_v, ↓SO_n, ↓SO_nf, ↓SO_d, ↓sq_f, ↓live_f, ↓live_b, ↓D_lenF, ↓D_ixF, ↓D_appF, ↓D_setF, ↓D_poplF, ↓D_lofF, ↓tp0, ↓tpS, ↓bh_f, ↓CG_rng, ↓CG_seq, ↓CG_enum, ↓CG_zip, ↓CG_str, ↓CG_seqR, ↓CG_enumR, ↓W_var, ↓W_cst, ↓W_glob, ↓W_bin, ↓W_cmp, ↓W_ix, ↓W_un, ↓W_blt, ↓W_blt2, ↓W_isi, ↓W_bits, ↓W_idx, ↓W_find, ↓W_pop, ↓W_dnew, ↓W_dix, ↓W_din, ↓W_sset, ↓D_sset, ↓W_lrg1, ↓W_lrg2, ↓W_dput, ↓StW_s, ↓ViW_i, ↓VaW_v, ↓SlW_d, ↓bh_nd, ↓OdW_s, ↓LnW_o, ↓LnW_d, ↓D_pop, ↓D_dixI, ↓D_dixS, ↓D_dinI, ↓D_dinS, ↓D_dputI, ↓D_dputS, ↓D_find, ↓D_lrg, ↓W_enum, ↓W_zip, ↓W_istr, ↓lstP_l, ↓lstP_s, ↓lstP_n, ↓lstQ_l, ↓W_revl, ↓W_revs, ↓W_sl, ↓W_bind, ↓W_partT, ↓W_partF, ↓PaW_i, ↓D_list, ↓D_tuple, ↓D_sum, ↓D_sorted, ↓D_maxl, ↓D_minl, ↓D_str, ↓D_bits, ↓D_revS, ↓D_revL, ↓D_revN, ↓seq_t, ↓seq_l, ↓seq_s, ↓seq_n, ↓seq_b, ↓seq_o, ↓ints_n, ↓ints_l, ↓inta_n, ↓inta_l, ↓inta_t, ↓W_exi, ↓W_chain, ↓W_not, ↓W_and, ↓W_or, ↓W_ife, ↓W_tup, ↓W_lst, ↓W_call, ↓W_frz, ↓W_mkbox, ↓W_app, ↓W_enil, ↓W_econs, ↓W_rng1, ↓W_rng2, ↓W_seq, ↓W_asg, ↓W_asgO, ↓W_asgT, ↓W_aug, ↓W_setix, ↓W_expr, ↓W_ret, ↓W_retN, ↓W_pass, ↓W_brk, ↓W_cont, ↓W_raise, ↓W_if, ↓W_for, ↓W_nil, ↓W_cons, ↓W_try, ↓W_ok, ↓W_exc, ↓WC_ok, ↓WC_exc, ↓WK_ok, ↓WK_exc, ↓TW_b, ↓DW_v, ↓DW_n, ↓IT_t, ↓IT_f, ↓IT_dt, ↓IT_df, IT_dt, IT_df, ↓IT_e1, ↓IT_e2, ↓IT_e3, ↓IT_e4, ↓IT_n, ↓IT_a, ↓SlW_v, ↓SlW_o, ↓OW_s, ↓FW_nx, ↓FW_rt, ↓FW_bk, ↓FW_ct, ↓RW_v, ↓RW_n, ↓RW_o, ↓bh_v, ↓bh_n, ↓bh_o, ↓Gam_glob, ↓D_add, ↓D_sub, ↓D_mul, ↓D_fdiv, ↓D_mod, ↓D_band, ↓D_bor, ↓D_bxor, ↓D_shl, ↓D_shr, ↓D_lt, ↓D_le, ↓D_gt, ↓D_ge, ↓D_eqi, ↓D_nei, ↓D_eqb, ↓D_eqll, ↓D_nell, ↓D_eqnn, ↓D_nenn, ↓D_eqnl, ↓D_nenl, ↓D_eqln, ↓D_neln, ↓D_eqtt, ↓D_nett, ↓D_ill, ↓D_itt, ↓D_neb, ↓D_isN, ↓D_inN, ↓D_isi1, ↓D_ini1, ↓D_ist1, ↓D_int1, ↓D_isl1, ↓D_inl1, ↓D_isn1, ↓D_inn1, ↓D_isb1, ↓D_inb1, ↓D_neg, ↓D_abs, ↓D_int, ↓D_intb, ↓D_lenT, ↓D_lenL, ↓D_lenS, ↓D_lenN, ↓D_lenB, ↓D_lenO, ↓D_max, ↓D_min, ↓D_ixT, ↓D_ixL, ↓D_ixS, ↓D_ixN, ↓D_ixB, ↓D_ixO, ↓D_setB, ↓D_setO, ↓D_appO, ↓D_lof, ↓D_catNN, ↓D_catNL, ↓D_catLN, ↓D_catLL, ↓D_ii, ↓D_ib, ↓D_bi, ↓D_bb, ↓BW_s, ↓OnW_s, ↓OnB_s, ↓VW_rv, ↓VW_rn, ↓VW_nx, ↓RV_rv, ↓at0, ↓at1, ↓at2, ↓at3, ↓Au_add, ↓Au_sub, ↓Au_bor, ↓Au_mul, ↓sT0, ↓sTS, ↓I1W_i, ↓I2W_i, ↓I3W_l, ↓I3W_s, ↓I3W_t, ↓I3W_n, ↓stepQ_nx, ↓stepQ_ct, ↓stepQ_bk, ↓stepQ_rt, ↓sE, ↓eg0, ↓egS, ↓st0, ↓stS, ↓true_and, ↓and_true, ↓eq_self, ↓isF_v, ↓isF_n, ↓decide_true, ↓decide_false, ↓Bool.not_true, ↓Bool.not_false, List.set_cons_zero, List.set_cons_succ, at4, at5, at6, at7, nAdd, nAddR, nAddL, nMul, nMulR, nMulL, nSub, nSubR, nSubL, nDiv, nDivR, nDivL, nMod, nModR, nBandR, nBorR, nBorL, nShl, nShlL, nShr, nToNat, nMin, nMax, Int.toNat_natCast, band_nat, bor_nat, Nat.zero_add, natsD_len, hT, lc]
        rw [decide_eq_false h4, decide_eq_false h3]; rfl
theorem at_lastN {α : Type} (ds : List α) (h : 0 < ds.length) : atI ds (-1) = ds[ds.length - 1]? := by
  have e : ixN ds.length (-1) = some (ds.length - 1) := by
    unfold ixN
    rw [if_neg (by omega), if_pos (by omega)]
    congr 1
    omega
  unfold atI
  rw [e]; rfl
theorem items_n (n : Nat) : Items (.rng 0 n) (natsD (List.range n)) := by rw [← rngD_nat]; exact items_r 0 n
include A in
theorem lal_run (hk : 1 < k) (hT : T[m]? = some (.lst (clsD cs))) (hl : cs.length ≤ 1000) (q z : Nat) (hq : q ≤ 4) (hz : z ≤ 14) (hB : Bds (bidN q z) cs) (ht : trail cs ≤ 4) :
    run p k A.fl ro [.int q, .int z, .box m] T = .ok (.new (clsD (legalN (bidN q z) cs))) T := by
  have zl : sizeLine = 16777216 := rfl
  have lc := clsD_len cs
  have ep : Dt.tup [.str "pass"] = Cl.pass.dt := rfl
  have ed : Dt.tup [.str "double"] = Cl.dbl.dt := rfl
  have er : Dt.tup [.str "redouble"] = Cl.rdb.dt := rfl
  refine WC_eq (WC_run (by rw [A.al]; rfl) A.hl (by omega) ?_)
  have zd := lad_run (k := k - 1) A ro (by omega) hT hl
  have zb := lab_run (k := k - 1) (T := T) A ro (by omega) q z hq hz
  rw [← done_over cs ht] at zd
  have lb := clsD_len (bidN q z)
  have lbb := bidN_len q z hq hz
  cases ho : auOver cs with
  | true =>
    have el : legalN (bidN q z) cs = [] := by unfold legalN; rw [if_pos ho]
    rw [ho] at zd
    rw [el]
    simp -implicitDefEqProofs -dsimp (disch := omega) only [bLL, bLL0, List.map, List.length, List.replicate, List.cons_append, List.nil_append, ↓W_dt, ↓W_fld, ↓W_meth, ↓W_make, ↓MkW_n, ↓W_popl, ↓W_setf, ↓W_augx, ↓W_asgM, ↓Gam_ncl, ↓EnW_l, ↓EnW_s, ↓EnW_n, ↓EnW_f, ↓EnW_b, ↓LG_rng, ↓LG_seq, ↓LG_enum, ↓LG_zip, ↓LG_str, ↓LG_seqR, ↓LG_enumR, ↓I3W_f, ↓I3W_b, ↓InW_s, ↓FdW_v, ↓FdW_o, ↓FdW_d, ↓InB_s, ↓D_fld, ↓D_meth, ↓D_setf, ↓SO_v, ↓SO_n, ↓SO_nf, ↓SO_d, ↓sq_f, ↓live_f, ↓live_b, ↓D_lenF, ↓D_ixF, ↓D_appF, ↓D_setF, ↓D_poplF, ↓D_lofF, ↓tp0, ↓tpS, ↓bh_f, ↓CG_rng, ↓CG_seq, ↓CG_enum, ↓CG_zip, ↓CG_str, ↓CG_seqR, ↓CG_enumR, ↓W_var, ↓W_cst, ↓W_glob, ↓W_bin, ↓W_cmp, ↓W_ix, ↓W_un, ↓W_blt, ↓W_blt2, ↓W_isi, ↓W_bits, ↓W_idx, ↓W_find, ↓W_pop, ↓W_dnew, ↓W_dix, ↓W_din, ↓W_sset, ↓D_sset, ↓W_lrg1, ↓W_lrg2, ↓W_dput, ↓StW_s, ↓ViW_i, ↓VaW_v, ↓SlW_d, ↓bh_nd, ↓OdW_s, ↓LnW_o, ↓LnW_d, ↓D_pop, ↓D_dixI, ↓D_dixS, ↓D_dinI, ↓D_dinS, ↓D_dputI, ↓D_dputS, ↓D_find, ↓D_lrg, ↓W_enum, ↓W_zip, ↓W_istr, ↓lstP_l, ↓lstP_s, ↓lstP_n, ↓lstQ_l, ↓W_revl, ↓W_revs, ↓W_sl, ↓W_bind, ↓W_partT, ↓W_partF, ↓PaW_i, ↓D_list, ↓D_tuple, ↓D_sum, ↓D_sorted, ↓D_maxl, ↓D_minl, ↓D_str, ↓D_bits, ↓D_revS, ↓D_revL, ↓D_revN, ↓seq_t, ↓seq_l, ↓seq_s, ↓seq_n, ↓seq_b, ↓seq_o, ↓ints_n, ↓ints_l, ↓inta_n, ↓inta_l, ↓inta_t, ↓W_exi, ↓W_chain, ↓W_not, ↓W_and, ↓W_or, ↓W_ife, ↓W_tup, ↓W_lst, ↓W_call, ↓W_frz, ↓W_mkbox, ↓W_app, ↓W_enil, ↓W_econs, ↓W_rng1, ↓W_rng2, ↓W_seq, ↓W_asg, ↓W_asgO, ↓W_asgT, ↓W_aug, ↓W_setix, ↓W_expr, ↓W_ret, ↓W_retN, ↓W_pass, ↓W_brk, ↓W_cont, ↓W_raise, ↓W_if, ↓W_for, ↓W_nil, ↓W_cons, ↓W_try, ↓W_ok, ↓W_exc, ↓WC_ok, ↓WC_exc, ↓WK_ok, ↓WK_exc, ↓TW_b, ↓DW_v, ↓DW_n, ↓IT_t, ↓IT_f, ↓IT_dt, ↓IT_df, IT_dt, IT_df, ↓IT_e1, ↓IT_e2, ↓IT_e3, ↓IT_e4, ↓IT_n, ↓IT_a, ↓SlW_v, ↓SlW_o, ↓OW_s, ↓FW_nx, ↓FW_rt, ↓FW_bk, ↓FW_ct, ↓RW_v, ↓RW_n, ↓RW_o, ↓bh_v, ↓bh_n, ↓bh_o, ↓Gam_glob, ↓D_add, ↓D_sub, ↓D_mul, ↓D_fdiv, ↓D_mod, ↓D_band, ↓D_bor, ↓D_bxor, ↓D_shl, ↓D_shr, ↓D_lt, ↓D_le, ↓D_gt, ↓D_ge, ↓D_eqi, ↓D_nei, ↓D_eqb, ↓D_eqll, ↓D_nell, ↓D_eqnn, ↓D_nenn, ↓D_eqnl, ↓D_nenl, ↓D_eqln, ↓D_neln, ↓D_eqtt, ↓D_nett, ↓D_ill, ↓D_itt, ↓D_neb, ↓D_isN, ↓D_inN, ↓D_isi1, ↓D_ini1, ↓D_ist1, ↓D_int1, ↓D_isl1, ↓D_inl1, ↓D_isn1, ↓D_inn1, ↓D_isb1, ↓D_inb1, ↓D_neg, ↓D_abs, ↓D_int, ↓D_intb, ↓D_lenT, ↓D_lenL, ↓D_lenS, ↓D_lenN, ↓D_lenB, ↓D_lenO, ↓D_max, ↓D_min, ↓D_ixT, ↓D_ixL, ↓D_ixS, ↓D_ixN, ↓D_ixB, ↓D_ixO, ↓D_setB, ↓D_setO, ↓D_appO, ↓D_lof, ↓D_catNN, ↓D_catNL, ↓D_catLN, ↓D_catLL, ↓D_ii, ↓D_ib, ↓D_bi, ↓D_bb, ↓BW_s, ↓OnW_s, ↓OnB_s, ↓VW_rv, ↓VW_rn, ↓VW_nx, ↓RV_rv, ↓at0, ↓at1, ↓at2, ↓at3, ↓Au_add, ↓Au_sub, ↓Au_bor, ↓Au_mul, ↓sT0, ↓sTS, ↓I1W_i, ↓I2W_i, ↓I3W_l, ↓I3W_s, ↓I3W_t, ↓I3W_n, ↓stepQ_nx, ↓stepQ_ct, ↓stepQ_bk, ↓stepQ_rt, ↓sE, ↓eg0, ↓egS, ↓st0, ↓stS, ↓true_and, ↓and_true, ↓eq_self, ↓isF_v, ↓isF_n, ↓decide_true, ↓decide_false, ↓Bool.not_true, ↓Bool.not_false, List.set_cons_zero, List.set_cons_succ, at4, at5, at6, at7, nAdd, nAddR, nAddL, nMul, nMulR, nMulL, nSub, nSubR, nSubL, nDiv, nDivR, nDivL, nMod, nModR, nBandR, nBorR, nBorL, nShl, nShlL, nShr, nToNat, nMin, nMax, Int.toNat_natCast, band_nat, bor_nat, Nat.zero_add, natsD_len, hT, zd]
    exact ⟨by omega, rfl⟩
  | false =>
    have el : legalN (bidN q z) cs = .pass :: dblN cs ++ (bidN q z).drop (lowN (bidN q z) cs) := by unfold legalN; rw [if_neg (by rw [ho]; exact Bool.false_ne_true)]
    rw [ho] at zd
    rw [el]
    generalize bidN q z = b at hB zb lb lbb
    simp -implicitDefEqProofs -dsimp (disch := omega) only [bLL, bLL9, List.map, List.length, List.replicate, List.cons_append, List.nil_append, ↓W_dt, ↓W_fld, ↓W_meth, ↓W_make, ↓MkW_n, ↓W_popl, ↓W_setf, ↓W_augx, ↓W_asgM, ↓Gam_ncl, ↓EnW_l, ↓EnW_s, ↓EnW_n, ↓EnW_f, ↓EnW_b, ↓LG_rng, ↓LG_seq, ↓LG_enum, ↓LG_zip, ↓LG_str, ↓LG_seqR, ↓LG_enumR, ↓I3W_f, ↓I3W_b, ↓InW_s, ↓FdW_v, ↓FdW_o, ↓FdW_d, ↓InB_s, ↓D_fld, ↓D_meth, ↓D_setf, ↓SO_v, ↓SO_n, ↓SO_nf, ↓SO_d, ↓sq_f, ↓live_f, ↓live_b, ↓D_lenF, ↓D_ixF, ↓D_appF, ↓D_setF, ↓D_poplF, ↓D_lofF, ↓tp0, ↓tpS, ↓bh_f, ↓CG_rng, ↓CG_seq, ↓CG_enum, ↓CG_zip, ↓CG_str, ↓CG_seqR, ↓CG_enumR, ↓W_var, ↓W_cst, ↓W_glob, ↓W_bin, ↓W_cmp, ↓W_ix, ↓W_un, ↓W_blt, ↓W_blt2, ↓W_isi, ↓W_bits, ↓W_idx, ↓W_find, ↓W_pop, ↓W_dnew, ↓W_dix, ↓W_din, ↓W_sset, ↓D_sset, ↓W_lrg1, ↓W_lrg2, ↓W_dput, ↓StW_s, ↓ViW_i, ↓VaW_v, ↓SlW_d, ↓bh_nd, ↓OdW_s, ↓LnW_o, ↓LnW_d, ↓D_pop, ↓D_dixI, ↓D_dixS, ↓D_dinI, ↓D_dinS, ↓D_dputI, ↓D_dputS, ↓D_find, ↓D_lrg, ↓W_enum, ↓W_zip, ↓W_istr, ↓lstP_l, ↓lstP_s, ↓lstP_n, ↓lstQ_l, ↓W_revl, ↓W_revs, ↓W_sl, ↓W_bind, ↓W_partT, ↓W_partF, ↓PaW_i, ↓D_list, ↓D_tuple, ↓D_sum, ↓D_sorted, ↓D_maxl, ↓D_minl, ↓D_str, ↓D_bits, ↓D_revS, ↓D_revL, ↓D_revN, ↓seq_t, ↓seq_l, ↓seq_s, ↓seq_n, ↓seq_b, ↓seq_o, ↓ints_n, ↓ints_l, ↓inta_n, ↓inta_l, ↓inta_t, ↓W_exi, ↓W_chain, ↓W_not, ↓W_and, ↓W_or, ↓W_ife, ↓W_tup, ↓W_lst, ↓W_call, ↓W_frz, ↓W_mkbox, ↓W_app, ↓W_enil, ↓W_econs, ↓W_rng1, ↓W_rng2, ↓W_seq, ↓W_asg, ↓W_asgO, ↓W_asgT, ↓W_aug, ↓W_setix, ↓W_expr, ↓W_ret, ↓W_retN, ↓W_pass, ↓W_brk, ↓W_cont, ↓W_raise, ↓W_if, ↓W_for, ↓W_nil, ↓W_cons, ↓W_try, ↓W_ok, ↓W_exc, ↓WC_ok, ↓WC_exc, ↓WK_ok, ↓WK_exc, ↓TW_b, ↓DW_v, ↓DW_n, ↓IT_t, ↓IT_f, ↓IT_dt, ↓IT_df, IT_dt, IT_df, ↓IT_e1, ↓IT_e2, ↓IT_e3, ↓IT_e4, ↓IT_n, ↓IT_a, ↓SlW_v, ↓SlW_o, ↓OW_s, ↓FW_nx, ↓FW_rt, ↓FW_bk, ↓FW_ct, ↓RW_v, ↓RW_n, ↓RW_o, ↓bh_v, ↓bh_n, ↓bh_o, ↓Gam_glob, ↓D_add, ↓D_sub, ↓D_mul, ↓D_fdiv, ↓D_mod, ↓D_band, ↓D_bor, ↓D_bxor, ↓D_shl, ↓D_shr, ↓D_lt, ↓D_le, ↓D_gt, ↓D_ge, ↓D_eqi, ↓D_nei, ↓D_eqb, ↓D_eqll, ↓D_nell, ↓D_eqnn, ↓D_nenn, ↓D_eqnl, ↓D_nenl, ↓D_eqln, ↓D_neln, ↓D_eqtt, ↓D_nett, ↓D_ill, ↓D_itt, ↓D_neb, ↓D_isN, ↓D_inN, ↓D_isi1, ↓D_ini1, ↓D_ist1, ↓D_int1, ↓D_isl1, ↓D_inl1, ↓D_isn1, ↓D_inn1, ↓D_isb1, ↓D_inb1, ↓D_neg, ↓D_abs, ↓D_int, ↓D_intb, ↓D_lenT, ↓D_lenL, ↓D_lenS, ↓D_lenN, ↓D_lenB, ↓D_lenO, ↓D_max, ↓D_min, ↓D_ixT, ↓D_ixL, ↓D_ixS, ↓D_ixN, ↓D_ixB, ↓D_ixO, ↓D_setB, ↓D_setO, ↓D_appO, ↓D_lof, ↓D_catNN, ↓D_catNL, ↓D_catLN, ↓D_catLL, ↓D_ii, ↓D_ib, ↓D_bi, ↓D_bb, ↓BW_s, ↓OnW_s, ↓OnB_s, ↓VW_rv, ↓VW_rn, ↓VW_nx, ↓RV_rv, ↓at0, ↓at1, ↓at2, ↓at3, ↓Au_add, ↓Au_sub, ↓Au_bor, ↓Au_mul, ↓sT0, ↓sTS, ↓I1W_i, ↓I2W_i, ↓I3W_l, ↓I3W_s, ↓I3W_t, ↓I3W_n, ↓stepQ_nx, ↓stepQ_ct, ↓stepQ_bk, ↓stepQ_rt, ↓sE, ↓eg0, ↓egS, ↓st0, ↓stS, ↓true_and, ↓and_true, ↓eq_self, ↓isF_v, ↓isF_n, ↓decide_true, ↓decide_false, ↓Bool.not_true, ↓Bool.not_false, List.set_cons_zero, List.set_cons_succ, at4, at5, at6, at7, nAdd, nAddR, nAddL, nMul, nMulR, nMulL, nSub, nSubR, nSubL, nDiv, nDivR, nDivL, nMod, nModR, nBandR, nBorR, nBorL, nShl, nShlL, nShr, nToNat, nMin, nMax, Int.toNat_natCast, band_nat, bor_nat, Nat.zero_add, natsD_len, hT, zd, ↓W_comp, lc, ep, smallR_in]
    refine ⟨by omega, by omega, by omega, ?_⟩
    refine W_comp_nat (items_n cs.length) (fun i => Cl.np (cs.getD i .pass)) id (sl := .none) rfl rfl (by rw [List.length_range]; omega) ?_ ?_ ?_
    · intro i hi
      have hi := List.mem_range.1 hi
      have hg := cls_get cs i hi
      simp -implicitDefEqProofs -dsimp (disch := omega) only [List.map, List.length, List.replicate, List.cons_append, List.nil_append, ↓W_dt, ↓W_fld, ↓W_meth, ↓W_make, ↓MkW_n, ↓W_popl, ↓W_setf, ↓W_augx, ↓W_asgM, ↓Gam_ncl, ↓EnW_l, ↓EnW_s, ↓EnW_n, ↓EnW_f, ↓EnW_b, ↓LG_rng, ↓LG_seq, ↓LG_enum, ↓LG_zip, ↓LG_str, ↓LG_seqR, ↓LG_enumR, ↓I3W_f, ↓I3W_b, ↓InW_s, ↓FdW_v, ↓FdW_o, ↓FdW_d, ↓InB_s, ↓D_fld, ↓D_meth, ↓D_setf, ↓SO_v, ↓SO_n, ↓SO_nf, ↓SO_d, ↓sq_f, ↓live_f, ↓live_b, ↓D_lenF, ↓D_ixF, ↓D_appF, ↓D_setF, ↓D_poplF, ↓D_lofF, ↓tp0, ↓tpS, ↓bh_f, ↓CG_rng, ↓CG_seq, ↓CG_enum, ↓CG_zip, ↓CG_str, ↓CG_seqR, ↓CG_enumR, ↓W_var, ↓W_cst, ↓W_glob, ↓W_bin, ↓W_cmp, ↓W_ix, ↓W_un, ↓W_blt, ↓W_blt2, ↓W_isi, ↓W_bits, ↓W_idx, ↓W_find, ↓W_pop, ↓W_dnew, ↓W_dix, ↓W_din, ↓W_sset, ↓D_sset, ↓W_lrg1, ↓W_lrg2, ↓W_dput, ↓StW_s, ↓ViW_i, ↓VaW_v, ↓SlW_d, ↓bh_nd, ↓OdW_s, ↓LnW_o, ↓LnW_d, ↓D_pop, ↓D_dixI, ↓D_dixS, ↓D_dinI, ↓D_dinS, ↓D_dputI, ↓D_dputS, ↓D_find, ↓D_lrg, ↓W_enum, ↓W_zip, ↓W_istr, ↓lstP_l, ↓lstP_s, ↓lstP_n, ↓lstQ_l, ↓W_revl, ↓W_revs, ↓W_sl, ↓W_bind, ↓W_partT, ↓W_partF, ↓PaW_i, ↓D_list, ↓D_tuple, ↓D_sum, ↓D_sorted, ↓D_maxl, ↓D_minl, ↓D_str, ↓D_bits, ↓D_revS, ↓D_revL, ↓D_revN, ↓seq_t, ↓seq_l, ↓seq_s, ↓seq_n, ↓seq_b, ↓seq_o, ↓ints_n, ↓ints_l, ↓inta_n, ↓inta_l, ↓inta_t, ↓W_exi, ↓W_chain, ↓W_not, ↓W_and, ↓W_or, ↓W_ife, ↓W_tup, ↓W_lst, ↓W_call, ↓W_frz, ↓W_mkbox, ↓W_app, ↓W_enil, ↓W_econs, ↓W_rng1, ↓W_rng2, ↓W_seq, ↓W_asg, ↓W_asgO, ↓W_asgT, ↓W_aug, ↓W_setix, ↓W_expr, ↓W_ret, ↓W_retN, ↓W_pass, ↓W_brk, ↓W_cont, ↓W_raise, ↓W_if, ↓W_for, ↓W_nil, ↓W_cons, ↓W_try, ↓W_ok, ↓W_exc, ↓WC_ok, ↓WC_exc, ↓WK_ok, ↓WK_exc, ↓TW_b, ↓DW_v, ↓DW_n, ↓IT_t, ↓IT_f, ↓IT_dt, ↓IT_df, IT_dt, IT_df, ↓IT_e1, ↓IT_e2, ↓IT_e3, ↓IT_e4, ↓IT_n, ↓IT_a, ↓SlW_v, ↓SlW_o, ↓OW_s, ↓FW_nx, ↓FW_rt, ↓FW_bk, ↓FW_ct, ↓RW_v, ↓RW_n, ↓RW_o, ↓bh_v, ↓bh_n, ↓bh_o, ↓Gam_glob, ↓D_add, ↓D_sub, ↓D_mul, ↓D_fdiv, ↓D_mod, ↓D_band, ↓D_bor, ↓D_bxor, ↓D_shl, ↓D_shr, ↓D_lt, ↓D_le, ↓D_gt, ↓D_ge, ↓D_eqi, ↓D_nei, ↓D_eqb, ↓D_eqll, ↓D_nell, ↓D_eqnn, ↓D_nenn, ↓D_eqnl, ↓D_nenl, ↓D_eqln, ↓D_neln, ↓D_eqtt, ↓D_nett, ↓D_ill, ↓D_itt, ↓D_neb, ↓D_isN, ↓D_inN, ↓D_isi1, ↓D_ini1, ↓D_ist1, ↓D_int1, ↓D_isl1, ↓D_inl1, ↓D_isn1, ↓D_inn1, ↓D_isb1, ↓D_inb1, ↓D_neg, ↓D_abs, ↓D_int, ↓D_intb, ↓D_lenT, ↓D_lenL, ↓D_lenS, ↓D_lenN, ↓D_lenB, ↓D_lenO, ↓D_max, ↓D_min, ↓D_ixT, ↓D_ixL, ↓D_ixS, ↓D_ixN, ↓D_ixB, ↓D_ixO, ↓D_setB, ↓D_setO, ↓D_appO, ↓D_lof, ↓D_catNN, ↓D_catNL, ↓D_catLN, ↓D_catLL, ↓D_ii, ↓D_ib, ↓D_bi, ↓D_bb, ↓BW_s, ↓OnW_s, ↓OnB_s, ↓VW_rv, ↓VW_rn, ↓VW_nx, ↓RV_rv, ↓at0, ↓at1, ↓at2, ↓at3, ↓Au_add, ↓Au_sub, ↓Au_bor, ↓Au_mul, ↓sT0, ↓sTS, ↓I1W_i, ↓I2W_i, ↓I3W_l, ↓I3W_s, ↓I3W_t, ↓I3W_n, ↓stepQ_nx, ↓stepQ_ct, ↓stepQ_bk, ↓stepQ_rt, ↓sE, ↓eg0, ↓egS, ↓st0, ↓stS, ↓true_and, ↓and_true, ↓eq_self, ↓isF_v, ↓isF_n, ↓decide_true, ↓decide_false, ↓Bool.not_true, ↓Bool.not_false, List.set_cons_zero, List.set_cons_succ, at4, at5, at6, at7, nAdd, nAddR, nAddL, nMul, nMulR, nMulL, nSub, nSubR, nSubL, nDiv, nDivR, nDivL, nMod, nModR, nBandR, nBorR, nBorL, nShl, nShlL, nShr, nToNat, nMin, nMax, Int.toNat_natCast, band_nat, bor_nat, Nat.zero_add, natsD_len, hT, hg, ep, ↓D_neC]
      exact ⟨by omega, rfl⟩
    · intro i hi _
      simp -implicitDefEqProofs -dsimp (disch := omega) only [List.map, List.length, List.replicate, List.cons_append, List.nil_append, ↓W_dt, ↓W_fld, ↓W_meth, ↓W_make, ↓MkW_n, ↓W_popl, ↓W_setf, ↓W_augx, ↓W_asgM, ↓Gam_ncl, ↓EnW_l, ↓EnW_s, ↓EnW_n, ↓EnW_f, ↓EnW_b, ↓LG_rng, ↓LG_seq, ↓LG_enum, ↓LG_zip, ↓LG_str, ↓LG_seqR, ↓LG_enumR, ↓I3W_f, ↓I3W_b, ↓InW_s, ↓FdW_v, ↓FdW_o, ↓FdW_d, ↓InB_s, ↓D_fld, ↓D_meth, ↓D_setf, ↓SO_v, ↓SO_n, ↓SO_nf, ↓SO_d, ↓sq_f, ↓live_f, ↓live_b, ↓D_lenF, ↓D_ixF, ↓D_appF, ↓D_setF, ↓D_poplF, ↓D_lofF, ↓tp0, ↓tpS, ↓bh_f, ↓CG_rng, ↓CG_seq, ↓CG_enum, ↓CG_zip, ↓CG_str, ↓CG_seqR, ↓CG_enumR, ↓W_var, ↓W_cst, ↓W_glob, ↓W_bin, ↓W_cmp, ↓W_ix, ↓W_un, ↓W_blt, ↓W_blt2, ↓W_isi, ↓W_bits, ↓W_idx, ↓W_find, ↓W_pop, ↓W_dnew, ↓W_dix, ↓W_din, ↓W_sset, ↓D_sset, ↓W_lrg1, ↓W_lrg2, ↓W_dput, ↓StW_s, ↓ViW_i, ↓VaW_v, ↓SlW_d, ↓bh_nd, ↓OdW_s, ↓LnW_o, ↓LnW_d, ↓D_pop, ↓D_dixI, ↓D_dixS, ↓D_dinI, ↓D_dinS, ↓D_dputI, ↓D_dputS, ↓D_find, ↓D_lrg, ↓W_enum, ↓W_zip, ↓W_istr, ↓lstP_l, ↓lstP_s, ↓lstP_n, ↓lstQ_l, ↓W_revl, ↓W_revs, ↓W_sl, ↓W_bind, ↓W_partT, ↓W_partF, ↓PaW_i, ↓D_list, ↓D_tuple, ↓D_sum, ↓D_sorted, ↓D_maxl, ↓D_minl, ↓D_str, ↓D_bits, ↓D_revS, ↓D_revL, ↓D_revN, ↓seq_t, ↓seq_l, ↓seq_s, ↓seq_n, ↓seq_b, ↓seq_o, ↓ints_n, ↓ints_l, ↓inta_n, ↓inta_l, ↓inta_t, ↓W_exi, ↓W_chain, ↓W_not, ↓W_and, ↓W_or, ↓W_ife, ↓W_tup, ↓W_lst, ↓W_call, ↓W_frz, ↓W_mkbox, ↓W_app, ↓W_enil, ↓W_econs, ↓W_rng1, ↓W_rng2, ↓W_seq, ↓W_asg, ↓W_asgO, ↓W_asgT, ↓W_aug, ↓W_setix, ↓W_expr, ↓W_ret, ↓W_retN, ↓W_pass, ↓W_brk, ↓W_cont, ↓W_raise, ↓W_if, ↓W_for, ↓W_nil, ↓W_cons, ↓W_try, ↓W_ok, ↓W_exc, ↓WC_ok, ↓WC_exc, ↓WK_ok, ↓WK_exc, ↓TW_b, ↓DW_v, ↓DW_n, ↓IT_t, ↓IT_f, ↓IT_dt, ↓IT_df, IT_dt, IT_df, ↓IT_e1, ↓IT_e2, ↓IT_e3, ↓IT_e4, ↓IT_n, ↓IT_a, ↓SlW_v, ↓SlW_o, ↓OW_s, ↓FW_nx, ↓FW_rt, ↓FW_bk, ↓FW_ct, ↓RW_v, ↓RW_n, ↓RW_o, ↓bh_v, ↓bh_n, ↓bh_o, ↓Gam_glob, ↓D_add, ↓D_sub, ↓D_mul, ↓D_fdiv, ↓D_mod, ↓D_band, ↓D_bor, ↓D_bxor, ↓D_shl, ↓D_shr, ↓D_lt, ↓D_le, ↓D_gt, ↓D_ge, ↓D_eqi, ↓D_nei, ↓D_eqb, ↓D_eqll, ↓D_nell, ↓D_eqnn, ↓D_nenn, ↓D_eqnl, ↓D_nenl, ↓D_eqln, ↓D_neln, ↓D_eqtt, ↓D_nett, ↓D_ill, ↓D_itt, ↓D_neb, ↓D_isN, ↓D_inN, ↓D_isi1, ↓D_ini1, ↓D_ist1, ↓D_int1, ↓D_isl1, ↓D_inl1, ↓D_isn1, ↓D_inn1, ↓D_isb1, ↓D_inb1, ↓D_neg, ↓D_abs, ↓D_int, ↓D_intb, ↓D_lenT, ↓D_lenL, ↓D_lenS, ↓D_lenN, ↓D_lenB, ↓D_lenO, ↓D_max, ↓D_min, ↓D_ixT, ↓D_ixL, ↓D_ixS, ↓D_ixN, ↓D_ixB, ↓D_ixO, ↓D_setB, ↓D_setO, ↓D_appO, ↓D_lof, ↓D_catNN, ↓D_catNL, ↓D_catLN, ↓D_catLL, ↓D_ii, ↓D_ib, ↓D_bi, ↓D_bb, ↓BW_s, ↓OnW_s, ↓OnB_s, ↓VW_rv, ↓VW_rn, ↓VW_nx, ↓RV_rv, ↓at0, ↓at1, ↓at2, ↓at3, ↓Au_add, ↓Au_sub, ↓Au_bor, ↓Au_mul, ↓sT0, ↓sTS, ↓I1W_i, ↓I2W_i, ↓I3W_l, ↓I3W_s, ↓I3W_t, ↓I3W_n, ↓stepQ_nx, ↓stepQ_ct, ↓stepQ_bk, ↓stepQ_rt, ↓sE, ↓eg0, ↓egS, ↓st0, ↓stS, ↓true_and, ↓and_true, ↓eq_self, ↓isF_v, ↓isF_n, ↓decide_true, ↓decide_false, ↓Bool.not_true, ↓Bool.not_false, List.set_cons_zero, List.set_cons_succ, at4, at5, at6, at7, nAdd, nAddR, nAddL, nMul, nMulR, nMulL, nSub, nSubR, nSubL, nDiv, nDivR, nDivL, nMod, nModR, nBandR, nBorR, nBorL, nShl, nShlL, nShr, nToNat, nMin, nMax, Int.toNat_natCast, band_nat, bor_nat, Nat.zero_add, natsD_len, id]
    rw [List.map_id]
    show W _ _ _
    have epl : (List.range cs.length).filter (fun i => Cl.np (cs.getD i .pass)) = plN Cl.np cs := rfl
    rw [epl]
    simp -implicitDefEqProofs -dsimp (disch := omega) only [List.map, List.length, List.replicate, List.cons_append, List.nil_append, ↓W_dt, ↓W_fld, ↓W_meth, ↓W_make, ↓MkW_n, ↓W_popl, ↓W_setf, ↓W_augx, ↓W_asgM, ↓Gam_ncl, ↓EnW_l, ↓EnW_s, ↓EnW_n, ↓EnW_f, ↓EnW_b, ↓LG_rng, ↓LG_seq, ↓LG_enum, ↓LG_zip, ↓LG_str, ↓LG_seqR, ↓LG_enumR, ↓I3W_f, ↓I3W_b, ↓InW_s, ↓FdW_v, ↓FdW_o, ↓FdW_d, ↓InB_s, ↓D_fld, ↓D_meth, ↓D_setf, ↓SO_v, ↓SO_n, ↓SO_nf, ↓SO_d, ↓sq_f, ↓live_f, ↓live_b, ↓D_lenF, ↓D_ixF, ↓D_appF, ↓D_setF, ↓D_poplF, ↓D_lofF, ↓tp0, ↓tpS, ↓bh_f, ↓CG_rng, ↓CG_seq, ↓CG_enum, ↓CG_zip, ↓CG_str, ↓CG_seqR, ↓CG_enumR, ↓W_var, ↓W_cst, ↓W_glob, ↓W_bin, ↓W_cmp, ↓W_ix, ↓W_un, ↓W_blt, ↓W_blt2, ↓W_isi, ↓W_bits, ↓W_idx, ↓W_find, ↓W_pop, ↓W_dnew, ↓W_dix, ↓W_din, ↓W_sset, ↓D_sset, ↓W_lrg1, ↓W_lrg2, ↓W_dput, ↓StW_s, ↓ViW_i, ↓VaW_v, ↓SlW_d, ↓bh_nd, ↓OdW_s, ↓LnW_o, ↓LnW_d, ↓D_pop, ↓D_dixI, ↓D_dixS, ↓D_dinI, ↓D_dinS, ↓D_dputI, ↓D_dputS, ↓D_find, ↓D_lrg, ↓W_enum, ↓W_zip, ↓W_istr, ↓lstP_l, ↓lstP_s, ↓lstP_n, ↓lstQ_l, ↓W_revl, ↓W_revs, ↓W_sl, ↓W_bind, ↓W_partT, ↓W_partF, ↓PaW_i, ↓D_list, ↓D_tuple, ↓D_sum, ↓D_sorted, ↓D_maxl, ↓D_minl, ↓D_str, ↓D_bits, ↓D_revS, ↓D_revL, ↓D_revN, ↓seq_t, ↓seq_l, ↓seq_s, ↓seq_n, ↓seq_b, ↓seq_o, ↓ints_n, ↓ints_l, ↓inta_n, ↓inta_l, ↓inta_t, ↓W_exi, ↓W_chain, ↓W_not, ↓W_and, ↓W_or, ↓W_ife, ↓W_tup, ↓W_lst, ↓W_call, ↓W_frz, ↓W_mkbox, ↓W_app, ↓W_enil, ↓W_econs, ↓W_rng1, ↓W_rng2, ↓W_seq, ↓W_asg, ↓W_asgO, ↓W_asgT, ↓W_aug, ↓W_setix, ↓W_expr, ↓W_ret, ↓W_retN, ↓W_pass, ↓W_brk, ↓W_cont, ↓W_raise, ↓W_if, ↓W_for, ↓W_nil, ↓W_cons, ↓W_try, ↓W_ok, ↓W_exc, ↓WC_ok, ↓WC_exc, ↓WK_ok, ↓WK_exc, ↓TW_b, ↓DW_v, ↓DW_n, ↓IT_t, ↓IT_f, ↓IT_dt, ↓IT_df, IT_dt, IT_df, ↓IT_e1, ↓IT_e2, ↓IT_e3, ↓IT_e4, ↓IT_n, ↓IT_a, ↓SlW_v, ↓SlW_o, ↓OW_s, ↓FW_nx, ↓FW_rt, ↓FW_bk, ↓FW_ct, ↓RW_v, ↓RW_n, ↓RW_o, ↓bh_v, ↓bh_n, ↓bh_o, ↓Gam_glob, ↓D_add, ↓D_sub, ↓D_mul, ↓D_fdiv, ↓D_mod, ↓D_band, ↓D_bor, ↓D_bxor, ↓D_shl, ↓D_shr, ↓D_lt, ↓D_le, ↓D_gt, ↓D_ge, ↓D_eqi, ↓D_nei, ↓D_eqb, ↓D_eqll, ↓D_nell, ↓D_eqnn, ↓D_nenn, ↓D_eqnl, ↓D_nenl, ↓D_eqln, ↓D_neln, ↓D_eqtt, ↓D_nett, ↓D_ill, ↓D_itt, ↓D_neb, ↓D_isN, ↓D_inN, ↓D_isi1, ↓D_ini1, ↓D_ist1, ↓D_int1, ↓D_isl1, ↓D_inl1, ↓D_isn1, ↓D_inn1, ↓D_isb1, ↓D_inb1, ↓D_neg, ↓D_abs, ↓D_int, ↓D_intb, ↓D_lenT, ↓D_lenL, ↓D_lenS, ↓D_lenN, ↓D_lenB, ↓D_lenO, ↓D_max, ↓D_min, ↓D_ixT, ↓D_ixL, ↓D_ixS, ↓D_ixN, ↓D_ixB, ↓D_ixO, ↓D_setB, ↓D_setO, ↓D_appO, ↓D_lof, ↓D_catNN, ↓D_catNL, ↓D_catLN, ↓D_catLL, ↓D_ii, ↓D_ib, ↓D_bi, ↓D_bb, ↓BW_s, ↓OnW_s, ↓OnB_s, ↓VW_rv, ↓VW_rn, ↓VW_nx, ↓RV_rv, ↓at0, ↓at1, ↓at2, ↓at3, ↓Au_add, ↓Au_sub, ↓Au_bor, ↓Au_mul, ↓sT0, ↓sTS, ↓I1W_i, ↓I2W_i, ↓I3W_l, ↓I3W_s, ↓I3W_t, ↓I3W_n, ↓stepQ_nx, ↓stepQ_ct, ↓stepQ_bk, ↓stepQ_rt, ↓sE, ↓eg0, ↓egS, ↓st0, ↓stS, ↓true_and, ↓and_true, ↓eq_self, ↓isF_v, ↓isF_n, ↓decide_true, ↓decide_false, ↓Bool.not_true, ↓Bool.not_false, List.set_cons_zero, List.set_cons_succ, at4, at5, at6, at7, nAdd, nAddR, nAddL, nMul, nMulR, nMulL, nSub, nSubR, nSubL, nDiv, nDivR, nDivL, nMod, nModR, nBandR, nBorR, nBorL, nShl, nShlL, nShr, nToNat, nMin, nMax, Int.toNat_natCast, band_nat, bor_nat, Nat.zero_add, natsD_len, hT, zb]
    refine W_loop_lstR (fun i st => ∃ s8 : Sl, st = ⟨[.val (.int q), .val (.int z), .val (.box m), .own [Cl.pass.dt], .val (.lst (natsD (plN Cl.np cs))), .none, .val (.lst (clsD b)), .val (.int (lowN b (cs.take i) : Nat)), s8], T, true⟩) ⟨.none, rfl⟩ ?_ ?_
    · rintro i st d hd ⟨s8, rfl⟩
      rw [cls_get?] at hd
      cases e : cs[i]? with
      | none => rw [e] at hd; cases hd
      | some c =>
        rw [e] at hd
        cases hd
        have et := lowN_snoc b (cs.take i) c
        rw [← take_get cs i c e] at et
        rw [et]
        cases hc : c.isBid with
        | true =>
          have hi := fun st => cls_idx st b c (hB c (List.mem_of_getElem? e) hc)
          simp -implicitDefEqProofs -dsimp (disch := omega) only [bLL8, bLL7, List.map, List.length, List.replicate, List.cons_append, List.nil_append, ↓W_dt, ↓W_fld, ↓W_meth, ↓W_make, ↓MkW_n, ↓W_popl, ↓W_setf, ↓W_augx, ↓W_asgM, ↓Gam_ncl, ↓EnW_l, ↓EnW_s, ↓EnW_n, ↓EnW_f, ↓EnW_b, ↓LG_rng, ↓LG_seq, ↓LG_enum, ↓LG_zip, ↓LG_str, ↓LG_seqR, ↓LG_enumR, ↓I3W_f, ↓I3W_b, ↓InW_s, ↓FdW_v, ↓FdW_o, ↓FdW_d, ↓InB_s, ↓D_fld, ↓D_meth, ↓D_setf, ↓SO_v, ↓SO_n, ↓SO_nf, ↓SO_d, ↓sq_f, ↓live_f, ↓live_b, ↓D_lenF, ↓D_ixF, ↓D_appF, ↓D_setF, ↓D_poplF, ↓D_lofF, ↓tp0, ↓tpS, ↓bh_f, ↓CG_rng, ↓CG_seq, ↓CG_enum, ↓CG_zip, ↓CG_str, ↓CG_seqR, ↓CG_enumR, ↓W_var, ↓W_cst, ↓W_glob, ↓W_bin, ↓W_cmp, ↓W_ix, ↓W_un, ↓W_blt, ↓W_blt2, ↓W_isi, ↓W_bits, ↓W_idx, ↓W_find, ↓W_pop, ↓W_dnew, ↓W_dix, ↓W_din, ↓W_sset, ↓D_sset, ↓W_lrg1, ↓W_lrg2, ↓W_dput, ↓StW_s, ↓ViW_i, ↓VaW_v, ↓SlW_d, ↓bh_nd, ↓OdW_s, ↓LnW_o, ↓LnW_d, ↓D_pop, ↓D_dixI, ↓D_dixS, ↓D_dinI, ↓D_dinS, ↓D_dputI, ↓D_dputS, ↓D_find, ↓D_lrg, ↓W_enum, ↓W_zip, ↓W_istr, ↓lstP_l, ↓lstP_s, ↓lstP_n, ↓lstQ_l, ↓W_revl, ↓W_revs, ↓W_sl, ↓W_bind, ↓W_partT, ↓W_partF, ↓PaW_i, ↓D_list, ↓D_tuple, ↓D_sum, ↓D_sorted, ↓D_maxl, ↓D_minl, ↓D_str, ↓D_bits, ↓D_revS, ↓D_revL, ↓D_revN, ↓seq_t, ↓seq_l, ↓seq_s, ↓seq_n, ↓seq_b, ↓seq_o, ↓ints_n, ↓ints_l, ↓inta_n, ↓inta_l, ↓inta_t, ↓W_exi, ↓W_chain, ↓W_not, ↓W_and, ↓W_or, ↓W_ife, ↓W_tup, ↓W_lst, ↓W_call, ↓W_frz, ↓W_mkbox, ↓W_app, ↓W_enil, ↓W_econs, ↓W_rng1, ↓W_rng2, ↓W_seq, ↓W_asg, ↓W_asgO, ↓W_asgT, ↓W_aug, ↓W_setix, ↓W_expr, ↓W_ret, ↓W_retN, ↓W_pass, ↓W_brk, ↓W_cont, ↓W_raise, ↓W_if, ↓W_for, ↓W_nil, ↓W_cons, ↓W_try, ↓W_ok, ↓W_exc, ↓WC_ok, ↓WC_exc, ↓WK_ok, ↓WK_exc, ↓TW_b, ↓DW_v, ↓DW_n, ↓IT_t, ↓IT_f, ↓IT_dt, ↓IT_df, IT_dt, IT_df, ↓IT_e1, ↓IT_e2, ↓IT_e3, ↓IT_e4, ↓IT_n, ↓IT_a, ↓SlW_v, ↓SlW_o, ↓OW_s, ↓FW_nx, ↓FW_rt, ↓FW_bk, ↓FW_ct, ↓RW_v, ↓RW_n, ↓RW_o, ↓bh_v, ↓bh_n, ↓bh_o, ↓Gam_glob, ↓D_add, ↓D_sub, ↓D_mul, ↓D_fdiv, ↓D_mod, ↓D_band, ↓D_bor, ↓D_bxor, ↓D_shl, ↓D_shr, ↓D_lt, ↓D_le, ↓D_gt, ↓D_ge, ↓D_eqi, ↓D_nei, ↓D_eqb, ↓D_eqll, ↓D_nell, ↓D_eqnn, ↓D_nenn, ↓D_eqnl, ↓D_nenl, ↓D_eqln, ↓D_neln, ↓D_eqtt, ↓D_nett, ↓D_ill, ↓D_itt, ↓D_neb, ↓D_isN, ↓D_inN, ↓D_isi1, ↓D_ini1, ↓D_ist1, ↓D_int1, ↓D_isl1, ↓D_inl1, ↓D_isn1, ↓D_inn1, ↓D_isb1, ↓D_inb1, ↓D_neg, ↓D_abs, ↓D_int, ↓D_intb, ↓D_lenT, ↓D_lenL, ↓D_lenS, ↓D_lenN, ↓D_lenB, ↓D_lenO, ↓D_max, ↓D_min, ↓D_ixT, ↓D_ixL, ↓D_ixS, ↓D_ixN, ↓D_ixB, ↓D_ixO, ↓D_setB, ↓D_setO, ↓D_appO, ↓D_lof, ↓D_catNN, ↓D_catNL, ↓D_catLN, ↓D_catLL, ↓D_ii, ↓D_ib, ↓D_bi, ↓D_bb, ↓BW_s, ↓OnW_s, ↓OnB_s, ↓VW_rv, ↓VW_rn, ↓VW_nx, ↓RV_rv, ↓at0, ↓at1, ↓at2, ↓at3, ↓Au_add, ↓Au_sub, ↓Au_bor, ↓Au_mul, ↓sT0, ↓sTS, ↓I1W_i, ↓I2W_i, ↓I3W_l, ↓I3W_s, ↓I3W_t, ↓I3W_n, ↓stepQ_nx, ↓stepQ_ct, ↓stepQ_bk, ↓stepQ_rt, ↓sE, ↓eg0, ↓egS, ↓st0, ↓stS, ↓true_and, ↓and_true, ↓eq_self, ↓isF_v, ↓isF_n, ↓decide_true, ↓decide_false, ↓Bool.not_true, ↓Bool.not_false, List.set_cons_zero, List.set_cons_succ, at4, at5, at6, at7, nAdd, nAddR, nAddL, nMul, nMulR, nMulL, nSub, nSubR, nSubL, nDiv, nDivR, nDivL, nMod, nModR, nBandR, nBorR, nBorL, nShl, nShlL, nShr, nToNat, nMin, nMax, Int.toNat_natCast, band_nat, bor_nat, Nat.zero_add, natsD_len, ↓D_ix0C, ↓D_eqS, cl_bid, hc, isL_l, hi, if_true]
          exact ⟨_, rfl⟩
        | false =>
          simp -implicitDefEqProofs -dsimp (disch := omega) only [bLL8, List.map, List.length, List.replicate, List.cons_append, List.nil_append, ↓W_dt, ↓W_fld, ↓W_meth, ↓W_make, ↓MkW_n, ↓W_popl, ↓W_setf, ↓W_augx, ↓W_asgM, ↓Gam_ncl, ↓EnW_l, ↓EnW_s, ↓EnW_n, ↓EnW_f, ↓EnW_b, ↓LG_rng, ↓LG_seq, ↓LG_enum, ↓LG_zip, ↓LG_str, ↓LG_seqR, ↓LG_enumR, ↓I3W_f, ↓I3W_b, ↓InW_s, ↓FdW_v, ↓FdW_o, ↓FdW_d, ↓InB_s, ↓D_fld, ↓D_meth, ↓D_setf, ↓SO_v, ↓SO_n, ↓SO_nf, ↓SO_d, ↓sq_f, ↓live_f, ↓live_b, ↓D_lenF, ↓D_ixF, ↓D_appF, ↓D_setF, ↓D_poplF, ↓D_lofF, ↓tp0, ↓tpS, ↓bh_f, ↓CG_rng, ↓CG_seq, ↓CG_enum, ↓CG_zip, ↓CG_str, ↓CG_seqR, ↓CG_enumR, ↓W_var, ↓W_cst, ↓W_glob, ↓W_bin, ↓W_cmp, ↓W_ix, ↓W_un, ↓W_blt, ↓W_blt2, ↓W_isi, ↓W_bits, ↓W_idx, ↓W_find, ↓W_pop, ↓W_dnew, ↓W_dix, ↓W_din, ↓W_sset, ↓D_sset, ↓W_lrg1, ↓W_lrg2, ↓W_dput, ↓StW_s, ↓ViW_i, ↓VaW_v, ↓SlW_d, ↓bh_nd, ↓OdW_s, ↓LnW_o, ↓LnW_d, ↓D_pop, ↓D_dixI, ↓D_dixS, ↓D_dinI, ↓D_dinS, ↓D_dputI, ↓D_dputS, ↓D_find, ↓D_lrg, ↓W_enum, ↓W_zip, ↓W_istr, ↓lstP_l, ↓lstP_s, ↓lstP_n, ↓lstQ_l, ↓W_revl, ↓W_revs, ↓W_sl, ↓W_bind, ↓W_partT, ↓W_partF, ↓PaW_i, ↓D_list, ↓D_tuple, ↓D_sum, ↓D_sorted, ↓D_maxl, ↓D_minl, ↓D_str, ↓D_bits, ↓D_revS, ↓D_revL, ↓D_revN, ↓seq_t, ↓seq_l, ↓seq_s, ↓seq_n, ↓seq_b, ↓seq_o, ↓ints_n, ↓ints_l, ↓inta_n, ↓inta_l, ↓inta_t, ↓W_exi, ↓W_chain, ↓W_not, ↓W_and, ↓W_or, ↓W_ife, ↓W_tup, ↓W_lst, ↓W_call, ↓W_frz, ↓W_mkbox, ↓W_app, ↓W_enil, ↓W_econs, ↓W_rng1, ↓W_rng2, ↓W_seq, ↓W_asg, ↓W_asgO, ↓W_asgT, ↓W_aug, ↓W_setix, ↓W_expr, ↓W_ret, ↓W_retN, ↓W_pass, ↓W_brk, ↓W_cont, ↓W_raise, ↓W_if, ↓W_for, ↓W_nil, ↓W_cons, ↓W_try, ↓W_ok, ↓W_exc, ↓WC_ok, ↓WC_exc, ↓WK_ok, ↓WK_exc, ↓TW_b, ↓DW_v, ↓DW_n, ↓IT_t, ↓IT_f, ↓IT_dt, ↓IT_df, IT_dt, IT_df, ↓IT_e1, ↓IT_e2, ↓IT_e3, ↓IT_e4, ↓IT_n, ↓IT_a, ↓SlW_v, ↓SlW_o, ↓OW_s, ↓FW_nx, ↓FW_rt, ↓FW_bk, ↓FW_ct, ↓RW_v, ↓RW_n, ↓RW_o, ↓bh_v, ↓bh_n, ↓bh_o, ↓Gam_glob, ↓D_add, ↓D_sub, ↓D_mul, ↓D_fdiv, ↓D_mod, ↓D_band, ↓D_bor, ↓D_bxor, ↓D_shl, ↓D_shr, ↓D_lt, ↓D_le, ↓D_gt, ↓D_ge, ↓D_eqi, ↓D_nei, ↓D_eqb, ↓D_eqll, ↓D_nell, ↓D_eqnn, ↓D_nenn, ↓D_eqnl, ↓D_nenl, ↓D_eqln, ↓D_neln, ↓D_eqtt, ↓D_nett, ↓D_ill, ↓D_itt, ↓D_neb, ↓D_isN, ↓D_inN, ↓D_isi1, ↓D_ini1, ↓D_ist1, ↓D_int1, ↓D_isl1, ↓D_inl1, ↓D_isn1, ↓D_inn1, ↓D_isb1, ↓D_inb1, ↓D_neg, ↓D_abs, ↓D_int, ↓D_intb, ↓D_lenT, ↓D_lenL, ↓D_lenS, ↓D_lenN, ↓D_lenB, ↓D_lenO, ↓D_max, ↓D_min, ↓D_ixT, ↓D_ixL, ↓D_ixS, ↓D_ixN, ↓D_ixB, ↓D_ixO, ↓D_setB, ↓D_setO, ↓D_appO, ↓D_lof, ↓D_catNN, ↓D_catNL, ↓D_catLN, ↓D_catLL, ↓D_ii, ↓D_ib, ↓D_bi, ↓D_bb, ↓BW_s, ↓OnW_s, ↓OnB_s, ↓VW_rv, ↓VW_rn, ↓VW_nx, ↓RV_rv, ↓at0, ↓at1, ↓at2, ↓at3, ↓Au_add, ↓Au_sub, ↓Au_bor, ↓Au_mul, ↓sT0, ↓sTS, ↓I1W_i, ↓I2W_i, ↓I3W_l, ↓I3W_s, ↓I3W_t, ↓I3W_n, ↓stepQ_nx, ↓stepQ_ct, ↓stepQ_bk, ↓stepQ_rt, ↓sE, ↓eg0, ↓egS, ↓st0, ↓stS, ↓true_and, ↓and_true, ↓eq_self, ↓isF_v, ↓isF_n, ↓decide_true, ↓decide_false, ↓Bool.not_true, ↓Bool.not_false, List.set_cons_zero, List.set_cons_succ, at4, at5, at6, at7, nAdd, nAddR, nAddL, nMul, nMulR, nMulL, nSub, nSubR, nSubL, nDiv, nDivR, nDivL, nMod, nModR, nBandR, nBorR, nBorL, nShl, nShlL, nShr, nToNat, nMin, nMax, Int.toNat_natCast, band_nat, bor_nat, Nat.zero_add, natsD_len, ↓D_ix0C, ↓D_eqS, cl_bid, hc, Bool.false_eq_true, if_false]
          exact ⟨_, rfl⟩
    · rintro st ⟨s8, rfl⟩
      rw [lc, List.take_length]
      have ld : (clsD (b.drop (lowN b cs))).length ≤ 35 := by rw [clsD_len, List.length_drop]; omega
      have e1 := cut_drop (clsD b) (lowN b cs)
      have n0 : natsD [] = [] := rfl
      have fin : ∀ (F : List Cl), F.length ≤ 10 → .pass :: dblN cs = F → W (evSs (Gam p (k - 1)) bLL1 ⟨[.val (.int q), .val (.int z), .val (.box m), .own (clsD F), .val (.lst (natsD (plN Cl.np cs))), .none, .val (.lst (clsD b)), .val (.int (lowN b cs : Nat)), s8], T, ro⟩) (VW fun h' S' => h' = Hd.new (clsD (Cl.pass :: (dblN cs ++ List.drop (lowN b cs) b))) ∧ S' = T) (fun _ _ => False) := fun F h1 h2 => by
        have lF := clsD_len F
        simp -implicitDefEqProofs -dsimp (disch := omega) only [bLL1, List.map, List.length, List.replicate, List.cons_append, List.nil_append, ↓W_dt, ↓W_fld, ↓W_meth, ↓W_make, ↓MkW_n, ↓W_popl, ↓W_setf, ↓W_augx, ↓W_asgM, ↓Gam_ncl, ↓EnW_l, ↓EnW_s, ↓EnW_n, ↓EnW_f, ↓EnW_b, ↓LG_rng, ↓LG_seq, ↓LG_enum, ↓LG_zip, ↓LG_str, ↓LG_seqR, ↓LG_enumR, ↓I3W_f, ↓I3W_b, ↓InW_s, ↓FdW_v, ↓FdW_o, ↓FdW_d, ↓InB_s, ↓D_fld, ↓D_meth, ↓D_setf, ↓SO_v, ↓SO_n, ↓SO_nf, ↓SO_d, ↓sq_f, ↓live_f, ↓live_b, ↓D_lenF, ↓D_ixF, ↓D_appF, ↓D_setF, ↓D_poplF, ↓D_lofF, ↓tp0, ↓tpS, ↓bh_f, ↓CG_rng, ↓CG_seq, ↓CG_enum, ↓CG_zip, ↓CG_str, ↓CG_seqR, ↓CG_enumR, ↓W_var, ↓W_cst, ↓W_glob, ↓W_bin, ↓W_cmp, ↓W_ix, ↓W_un, ↓W_blt, ↓W_blt2, ↓W_isi, ↓W_bits, ↓W_idx, ↓W_find, ↓W_pop, ↓W_dnew, ↓W_dix, ↓W_din, ↓W_sset, ↓D_sset, ↓W_lrg1, ↓W_lrg2, ↓W_dput, ↓StW_s, ↓ViW_i, ↓VaW_v, ↓SlW_d, ↓bh_nd, ↓OdW_s, ↓LnW_o, ↓LnW_d, ↓D_pop, ↓D_dixI, ↓D_dixS, ↓D_dinI, ↓D_dinS, ↓D_dputI, ↓D_dputS, ↓D_find, ↓D_lrg, ↓W_enum, ↓W_zip, ↓W_istr, ↓lstP_l, ↓lstP_s, ↓lstP_n, ↓lstQ_l, ↓W_revl, ↓W_revs, ↓W_sl, ↓W_bind, ↓W_partT, ↓W_partF, ↓PaW_i, ↓D_list, ↓D_tuple, ↓D_sum, ↓D_sorted, ↓D_maxl, ↓D_minl, ↓D_str, ↓D_bits, ↓D_revS, ↓D_revL, ↓D_revN, ↓seq_t, ↓seq_l, ↓seq_s, ↓seq_n, ↓seq_b, ↓seq_o, ↓ints_n, ↓ints_l, ↓inta_n, ↓inta_l, ↓inta_t, ↓W_exi, ↓W_chain, ↓W_not, ↓W_and, ↓W_or, ↓W_ife, ↓W_tup, ↓W_lst, ↓W_call, ↓W_frz, ↓W_mkbox, ↓W_app, ↓W_enil, ↓W_econs, ↓W_rng1, ↓W_rng2, ↓W_seq, ↓W_asg, ↓W_asgO, ↓W_asgT, ↓W_aug, ↓W_setix, ↓W_expr, ↓W_ret, ↓W_retN, ↓W_pass, ↓W_brk, ↓W_cont, ↓W_raise, ↓W_if, ↓W_for, ↓W_nil, ↓W_cons, ↓W_try, ↓W_ok, ↓W_exc, ↓WC_ok, ↓WC_exc, ↓WK_ok, ↓WK_exc, ↓TW_b, ↓DW_v, ↓DW_n, ↓IT_t, ↓IT_f, ↓IT_dt, ↓IT_df, IT_dt, IT_df, ↓IT_e1, ↓IT_e2, ↓IT_e3, ↓IT_e4, ↓IT_n, ↓IT_a, ↓SlW_v, ↓SlW_o, ↓OW_s, ↓FW_nx, ↓FW_rt, ↓FW_bk, ↓FW_ct, ↓RW_v, ↓RW_n, ↓RW_o, ↓bh_v, ↓bh_n, ↓bh_o, ↓Gam_glob, ↓D_add, ↓D_sub, ↓D_mul, ↓D_fdiv, ↓D_mod, ↓D_band, ↓D_bor, ↓D_bxor, ↓D_shl, ↓D_shr, ↓D_lt, ↓D_le, ↓D_gt, ↓D_ge, ↓D_eqi, ↓D_nei, ↓D_eqb, ↓D_eqll, ↓D_nell, ↓D_eqnn, ↓D_nenn, ↓D_eqnl, ↓D_nenl, ↓D_eqln, ↓D_neln, ↓D_eqtt, ↓D_nett, ↓D_ill, ↓D_itt, ↓D_neb, ↓D_isN, ↓D_inN, ↓D_isi1, ↓D_ini1, ↓D_ist1, ↓D_int1, ↓D_isl1, ↓D_inl1, ↓D_isn1, ↓D_inn1, ↓D_isb1, ↓D_inb1, ↓D_neg, ↓D_abs, ↓D_int, ↓D_intb, ↓D_lenT, ↓D_lenL, ↓D_lenS, ↓D_lenN, ↓D_lenB, ↓D_lenO, ↓D_max, ↓D_min, ↓D_ixT, ↓D_ixL, ↓D_ixS, ↓D_ixN, ↓D_ixB, ↓D_ixO, ↓D_setB, ↓D_setO, ↓D_appO, ↓D_lof, ↓D_catNN, ↓D_catNL, ↓D_catLN, ↓D_catLL, ↓D_ii, ↓D_ib, ↓D_bi, ↓D_bb, ↓BW_s, ↓OnW_s, ↓OnB_s, ↓VW_rv, ↓VW_rn, ↓VW_nx, ↓RV_rv, ↓at0, ↓at1, ↓at2, ↓at3, ↓Au_add, ↓Au_sub, ↓Au_bor, ↓Au_mul, ↓sT0, ↓sTS, ↓I1W_i, ↓I2W_i, ↓I3W_l, ↓I3W_s, ↓I3W_t, ↓I3W_n, ↓stepQ_nx, ↓stepQ_ct, ↓stepQ_bk, ↓stepQ_rt, ↓sE, ↓eg0, ↓egS, ↓st0, ↓stS, ↓true_and, ↓and_true, ↓eq_self, ↓isF_v, ↓isF_n, ↓decide_true, ↓decide_false, ↓Bool.not_true, ↓Bool.not_false, List.set_cons_zero, List.set_cons_succ, at4, at5, at6, at7, nAdd, nAddR, nAddL, nMul, nMulR, nMulL, nSub, nSubR, nSubL, nDiv, nDivR, nDivL, nMod, nModR, nBandR, nBorR, nBorL, nShl, nShlL, nShr, nToNat, nMin, nMax, Int.toNat_natCast, band_nat, bor_nat, Nat.zero_add, natsD_len, ↓D_slL, e1, cls_drop, ↓D_catON, cls_app]
        rw [← List.cons_append, h2, lF]
        exact ⟨by omega, rfl⟩
      have p1 : [Cl.pass.dt] = clsD [.pass] := rfl
      have p2 : [Cl.pass.dt, Cl.dbl.dt] = clsD [.pass, .dbl] := rfl
      have p3 : [Cl.pass.dt, Cl.rdb.dt] = clsD [.pass, .rdb] := rfl
      by_cases h : plN Cl.np cs = []
      · have ed0 : dblN cs = [] := by unfold dblN; rw [h]; rfl
        have f1 := fin [.pass] (by decide) (by rw [ed0])
        rw [← p1] at f1
        simp -implicitDefEqProofs -dsimp (disch := omega) only [bLL6, List.map, List.length, List.replicate, List.cons_append, List.nil_append, ↓W_dt, ↓W_fld, ↓W_meth, ↓W_make, ↓MkW_n, ↓W_popl, ↓W_setf, ↓W_augx, ↓W_asgM, ↓Gam_ncl, ↓EnW_l, ↓EnW_s, ↓EnW_n, ↓EnW_f, ↓EnW_b, ↓LG_rng, ↓LG_seq, ↓LG_enum, ↓LG_zip, ↓LG_str, ↓LG_seqR, ↓LG_enumR, ↓I3W_f, ↓I3W_b, ↓InW_s, ↓FdW_v, ↓FdW_o, ↓FdW_d, ↓InB_s, ↓D_fld, ↓D_meth, ↓D_setf, ↓SO_v, ↓SO_n, ↓SO_nf, ↓SO_d, ↓sq_f, ↓live_f, ↓live_b, ↓D_lenF, ↓D_ixF, ↓D_appF, ↓D_setF, ↓D_poplF, ↓D_lofF, ↓tp0, ↓tpS, ↓bh_f, ↓CG_rng, ↓CG_seq, ↓CG_enum, ↓CG_zip, ↓CG_str, ↓CG_seqR, ↓CG_enumR, ↓W_var, ↓W_cst, ↓W_glob, ↓W_bin, ↓W_cmp, ↓W_ix, ↓W_un, ↓W_blt, ↓W_blt2, ↓W_isi, ↓W_bits, ↓W_idx, ↓W_find, ↓W_pop, ↓W_dnew, ↓W_dix, ↓W_din, ↓W_sset, ↓D_sset, ↓W_lrg1, ↓W_lrg2, ↓W_dput, ↓StW_s, ↓ViW_i, ↓VaW_v, ↓SlW_d, ↓bh_nd, ↓OdW_s, ↓LnW_o, ↓LnW_d, ↓D_pop, ↓D_dixI, ↓D_dixS, ↓D_dinI, ↓D_dinS, ↓D_dputI, ↓D_dputS, ↓D_find, ↓D_lrg, ↓W_enum, ↓W_zip, ↓W_istr, ↓lstP_l, ↓lstP_s, ↓lstP_n, ↓lstQ_l, ↓W_revl, ↓W_revs, ↓W_sl, ↓W_bind, ↓W_partT, ↓W_partF, ↓PaW_i, ↓D_list, ↓D_tuple, ↓D_sum, ↓D_sorted, ↓D_maxl, ↓D_minl, ↓D_str, ↓D_bits, ↓D_revS, ↓D_revL, ↓D_revN, ↓seq_t, ↓seq_l, ↓seq_s, ↓seq_n, ↓seq_b, ↓seq_o, ↓ints_n, ↓ints_l, ↓inta_n, ↓inta_l, ↓inta_t, ↓W_exi, ↓W_chain, ↓W_not, ↓W_and, ↓W_or, ↓W_ife, ↓W_tup, ↓W_lst, ↓W_call, ↓W_frz, ↓W_mkbox, ↓W_app, ↓W_enil, ↓W_econs, ↓W_rng1, ↓W_rng2, ↓W_seq, ↓W_asg, ↓W_asgO, ↓W_asgT, ↓W_aug, ↓W_setix, ↓W_expr, ↓W_ret, ↓W_retN, ↓W_pass, ↓W_brk, ↓W_cont, ↓W_raise, ↓W_if, ↓W_for, ↓W_nil, ↓W_cons, ↓W_try, ↓W_ok, ↓W_exc, ↓WC_ok, ↓WC_exc, ↓WK_ok, ↓WK_exc, ↓TW_b, ↓DW_v, ↓DW_n, ↓IT_t, ↓IT_f, ↓IT_dt, ↓IT_df, IT_dt, IT_df, ↓IT_e1, ↓IT_e2, ↓IT_e3, ↓IT_e4, ↓IT_n, ↓IT_a, ↓SlW_v, ↓SlW_o, ↓OW_s, ↓FW_nx, ↓FW_rt, ↓FW_bk, ↓FW_ct, ↓RW_v, ↓RW_n, ↓RW_o, ↓bh_v, ↓bh_n, ↓bh_o, ↓Gam_glob, ↓D_add, ↓D_sub, ↓D_mul, ↓D_fdiv, ↓D_mod, ↓D_band, ↓D_bor, ↓D_bxor, ↓D_shl, ↓D_shr, ↓D_lt, ↓D_le, ↓D_gt, ↓D_ge, ↓D_eqi, ↓D_nei, ↓D_eqb, ↓D_eqll, ↓D_nell, ↓D_eqnn, ↓D_nenn, ↓D_eqnl, ↓D_nenl, ↓D_eqln, ↓D_neln, ↓D_eqtt, ↓D_nett, ↓D_ill, ↓D_itt, ↓D_neb, ↓D_isN, ↓D_inN, ↓D_isi1, ↓D_ini1, ↓D_ist1, ↓D_int1, ↓D_isl1, ↓D_inl1, ↓D_isn1, ↓D_inn1, ↓D_isb1, ↓D_inb1, ↓D_neg, ↓D_abs, ↓D_int, ↓D_intb, ↓D_lenT, ↓D_lenL, ↓D_lenS, ↓D_lenN, ↓D_lenB, ↓D_lenO, ↓D_max, ↓D_min, ↓D_ixT, ↓D_ixL, ↓D_ixS, ↓D_ixN, ↓D_ixB, ↓D_ixO, ↓D_setB, ↓D_setO, ↓D_appO, ↓D_lof, ↓D_catNN, ↓D_catNL, ↓D_catLN, ↓D_catLL, ↓D_ii, ↓D_ib, ↓D_bi, ↓D_bb, ↓BW_s, ↓OnW_s, ↓OnB_s, ↓VW_rv, ↓VW_rn, ↓VW_nx, ↓RV_rv, ↓at0, ↓at1, ↓at2, ↓at3, ↓Au_add, ↓Au_sub, ↓Au_bor, ↓Au_mul, ↓sT0, ↓sTS, ↓I1W_i, ↓I2W_i, ↓I3W_l, ↓I3W_s, ↓I3W_t, ↓I3W_n, ↓stepQ_nx, ↓stepQ_ct, ↓stepQ_bk, ↓stepQ_rt, ↓sE, ↓eg0, ↓egS, ↓st0, ↓stS, ↓true_and, ↓and_true, ↓eq_self, ↓isF_v, ↓isF_n, ↓decide_true, ↓decide_false, ↓Bool.not_true, ↓Bool.not_false, List.set_cons_zero, List.set_cons_succ, at4, at5, at6, at7, nAdd, nAddR, nAddL, nMul, nMulR, nMulL, nSub, nSubR, nSubL, nDiv, nDivR, nDivL, nMod, nModR, nBandR, nBorR, nBorL, nShl, nShlL, nShr, nToNat, nMin, nMax, Int.toNat_natCast, band_nat, bor_nat, Nat.zero_add, natsD_len, ↓D_neN, decide_eq_true h]
        exact ⟨by omega, f1⟩
      · have hs := lastI_some Cl.np cs h
        cases hs with
        | intro x hs =>
        have hx := hs.1
        have hm := at_neg1 _ _ hs.2.2.1
        have hg := cls_get cs x hx
        have ed0 : dblN cs = if (cs.length - x) % 2 = 1 then (if (cs.getD x .pass).isBid then [.dbl] else []) ++ (if cs.getD x .pass = .dbl then [.rdb] else []) else [] := by unfold dblN; rw [hs.2.2.1]
        by_cases hp : (cs.length - x) % 2 = 1
        · rw [if_pos hp] at ed0
          cases hc : cs.getD x .pass with
          | pass =>
            have z := hs.2.2.2
            rw [hc] at z
            cases z
          | bid l s =>
            rw [hc] at ed0 hg
            have f1 := fin [.pass, .dbl] (by decide) (by rw [ed0]; rfl)
            rw [← p2] at f1
            have ew : (Cl.bid l s).isBid = true := rfl
            simp -implicitDefEqProofs -dsimp (disch := omega) only [bLL6, bLL5, bLL4, bLL3, List.map, List.length, List.replicate, List.cons_append, List.nil_append, ↓W_dt, ↓W_fld, ↓W_meth, ↓W_make, ↓MkW_n, ↓W_popl, ↓W_setf, ↓W_augx, ↓W_asgM, ↓Gam_ncl, ↓EnW_l, ↓EnW_s, ↓EnW_n, ↓EnW_f, ↓EnW_b, ↓LG_rng, ↓LG_seq, ↓LG_enum, ↓LG_zip, ↓LG_str, ↓LG_seqR, ↓LG_enumR, ↓I3W_f, ↓I3W_b, ↓InW_s, ↓FdW_v, ↓FdW_o, ↓FdW_d, ↓InB_s, ↓D_fld, ↓D_meth, ↓D_setf, ↓SO_v, ↓SO_n, ↓SO_nf, ↓SO_d, ↓sq_f, ↓live_f, ↓live_b, ↓D_lenF, ↓D_ixF, ↓D_appF, ↓D_setF, ↓D_poplF, ↓D_lofF, ↓tp0, ↓tpS, ↓bh_f, ↓CG_rng, ↓CG_seq, ↓CG_enum, ↓CG_zip, ↓CG_str, ↓CG_seqR, ↓CG_enumR, ↓W_var, ↓W_cst, ↓W_glob, ↓W_bin, ↓W_cmp, ↓W_ix, ↓W_un, ↓W_blt, ↓W_blt2, ↓W_isi, ↓W_bits, ↓W_idx, ↓W_find, ↓W_pop, ↓W_dnew, ↓W_dix, ↓W_din, ↓W_sset, ↓D_sset, ↓W_lrg1, ↓W_lrg2, ↓W_dput, ↓StW_s, ↓ViW_i, ↓VaW_v, ↓SlW_d, ↓bh_nd, ↓OdW_s, ↓LnW_o, ↓LnW_d, ↓D_pop, ↓D_dixI, ↓D_dixS, ↓D_dinI, ↓D_dinS, ↓D_dputI, ↓D_dputS, ↓D_find, ↓D_lrg, ↓W_enum, ↓W_zip, ↓W_istr, ↓lstP_l, ↓lstP_s, ↓lstP_n, ↓lstQ_l, ↓W_revl, ↓W_revs, ↓W_sl, ↓W_bind, ↓W_partT, ↓W_partF, ↓PaW_i, ↓D_list, ↓D_tuple, ↓D_sum, ↓D_sorted, ↓D_maxl, ↓D_minl, ↓D_str, ↓D_bits, ↓D_revS, ↓D_revL, ↓D_revN, ↓seq_t, ↓seq_l, ↓seq_s, ↓seq_n, ↓seq_b, ↓seq_o, ↓ints_n, ↓ints_l, ↓inta_n, ↓inta_l, ↓inta_t, ↓W_exi, ↓W_chain, ↓W_not, ↓W_and, ↓W_or, ↓W_ife, ↓W_tup, ↓W_lst, ↓W_call, ↓W_frz, ↓W_mkbox, ↓W_app, ↓W_enil, ↓W_econs, ↓W_rng1, ↓W_rng2, ↓W_seq, ↓W_asg, ↓W_asgO, ↓W_asgT, ↓W_aug, ↓W_setix, ↓W_expr, ↓W_ret, ↓W_retN, ↓W_pass, ↓W_brk, ↓W_cont, ↓W_raise, ↓W_if, ↓W_for, ↓W_nil, ↓W_cons, ↓W_try, ↓W_ok, ↓W_exc, ↓WC_ok, ↓WC_exc, ↓WK_ok, ↓WK_exc, ↓TW_b, ↓DW_v, ↓DW_n, ↓IT_t, ↓IT_f, ↓IT_dt, ↓IT_df, IT_dt, IT_df, ↓IT_e1, ↓IT_e2, ↓IT_e3, ↓IT_e4, ↓IT_n, ↓IT_a, ↓SlW_v, ↓SlW_o, ↓OW_s, ↓FW_nx, ↓FW_rt, ↓FW_bk, ↓FW_ct, ↓RW_v, ↓RW_n, ↓RW_o, ↓bh_v, ↓bh_n, ↓bh_o, ↓Gam_glob, ↓D_add, ↓D_sub, ↓D_mul, ↓D_fdiv, ↓D_mod, ↓D_band, ↓D_bor, ↓D_bxor, ↓D_shl, ↓D_shr, ↓D_lt, ↓D_le, ↓D_gt, ↓D_ge, ↓D_eqi, ↓D_nei, ↓D_eqb, ↓D_eqll, ↓D_nell, ↓D_eqnn, ↓D_nenn, ↓D_eqnl, ↓D_nenl, ↓D_eqln, ↓D_neln, ↓D_eqtt, ↓D_nett, ↓D_ill, ↓D_itt, ↓D_neb, ↓D_isN, ↓D_inN, ↓D_isi1, ↓D_ini1, ↓D_ist1, ↓D_int1, ↓D_isl1, ↓D_inl1, ↓D_isn1, ↓D_inn1, ↓D_isb1, ↓D_inb1, ↓D_neg, ↓D_abs, ↓D_int, ↓D_intb, ↓D_lenT, ↓D_lenL, ↓D_lenS, ↓D_lenN, ↓D_lenB, ↓D_lenO, ↓D_max, ↓D_min, ↓D_ixT, ↓D_ixL, ↓D_ixS, ↓D_ixN, ↓D_ixB, ↓D_ixO, ↓D_setB, ↓D_setO, ↓D_appO, ↓D_lof, ↓D_catNN, ↓D_catNL, ↓D_catLN, ↓D_catLL, ↓D_ii, ↓D_ib, ↓D_bi, ↓D_bb, ↓BW_s, ↓OnW_s, ↓OnB_s, ↓VW_rv, ↓VW_rn, ↓VW_nx, ↓RV_rv, ↓at0, ↓at1, ↓at2, ↓at3, ↓Au_add, ↓Au_sub, ↓Au_bor, ↓Au_mul, ↓sT0, ↓sTS, ↓I1W_i, ↓I2W_i, ↓I3W_l, ↓I3W_s, ↓I3W_t, ↓I3W_n, ↓stepQ_nx, ↓stepQ_ct, ↓stepQ_bk, ↓stepQ_rt, ↓sE, ↓eg0, ↓egS, ↓st0, ↓stS, ↓true_and, ↓and_true, ↓eq_self, ↓isF_v, ↓isF_n, ↓decide_true, ↓decide_false, ↓Bool.not_true, ↓Bool.not_false, List.set_cons_zero, List.set_cons_succ, at4, at5, at6, at7, nAdd, nAddR, nAddL, nMul, nMulR, nMulL, nSub, nSubR, nSubL, nDiv, nDivR, nDivL, nMod, nModR, nBandR, nBorR, nBorL, nShl, nShlL, nShr, nToNat, nMin, nMax, Int.toNat_natCast, band_nat, bor_nat, Nat.zero_add, natsD_len, ↓D_neN, decide_eq_false h, hm, hT, lc, hg, ↓D_ix0C, ↓D_eqS, cl_bid, ew, ed, er, ↓D_eqC, reduceCtorEq, decide_false]
            with_reducible and_intros
            all_goals first | omega | decide | exact f1
          | dbl =>
            rw [hc] at ed0 hg
            have f1 := fin [.pass, .rdb] (by decide) (by rw [ed0]; rfl)
            rw [← p3] at f1
            have ew : (Cl.dbl).isBid = false := rfl
            simp -implicitDefEqProofs -dsimp (disch := omega) only [bLL6, bLL5, bLL3, bLL2, List.map, List.length, List.replicate, List.cons_append, List.nil_append, ↓W_dt, ↓W_fld, ↓W_meth, ↓W_make, ↓MkW_n, ↓W_popl, ↓W_setf, ↓W_augx, ↓W_asgM, ↓Gam_ncl, ↓EnW_l, ↓EnW_s, ↓EnW_n, ↓EnW_f, ↓EnW_b, ↓LG_rng, ↓LG_seq, ↓LG_enum, ↓LG_zip, ↓LG_str, ↓LG_seqR, ↓LG_enumR, ↓I3W_f, ↓I3W_b, ↓InW_s, ↓FdW_v, ↓FdW_o, ↓FdW_d, ↓InB_s, ↓D_fld, ↓D_meth, ↓D_setf, ↓SO_v, ↓SO_n, ↓SO_nf, ↓SO_d, ↓sq_f, ↓live_f, ↓live_b, ↓D_lenF, ↓D_ixF, ↓D_appF, ↓D_setF, ↓D_poplF, ↓D_lofF, ↓tp0, ↓tpS, ↓bh_f, ↓CG_rng, ↓CG_seq, ↓CG_enum, ↓CG_zip, ↓CG_str, ↓CG_seqR, ↓CG_enumR, ↓W_var, ↓W_cst, ↓W_glob, ↓W_bin, ↓W_cmp, ↓W_ix, ↓W_un, ↓W_blt, ↓W_blt2, ↓W_isi, ↓W_bits, ↓W_idx, ↓W_find, ↓W_pop, ↓W_dnew, ↓W_dix, ↓W_din, ↓W_sset, ↓D_sset, ↓W_lrg1, ↓W_lrg2, ↓W_dput, ↓StW_s, ↓ViW_i, ↓VaW_v, ↓SlW_d, ↓bh_nd, ↓OdW_s, ↓LnW_o, ↓LnW_d, ↓D_pop, ↓D_dixI, ↓D_dixS, ↓D_dinI, ↓D_dinS, ↓D_dputI, ↓D_dputS, ↓D_find, ↓D_lrg, ↓W_enum, ↓W_zip, ↓W_istr, ↓lstP_l, ↓lstP_s, ↓lstP_n, ↓lstQ_l, ↓W_revl, ↓W_revs, ↓W_sl, ↓W_bind, ↓W_partT, ↓W_partF, ↓PaW_i, ↓D_list, ↓D_tuple, ↓D_sum, ↓D_sorted, ↓D_maxl, ↓D_minl, ↓D_str, ↓D_bits, ↓D_revS, ↓D_revL, ↓D_revN, ↓seq_t, ↓seq_l, ↓seq_s, ↓seq_n, ↓seq_b, ↓seq_o, ↓ints_n, ↓ints_l, ↓inta_n, ↓inta_l, ↓inta_t, ↓W_exi, ↓W_chain, ↓W_not, ↓W_and, ↓W_or, ↓W_ife, ↓W_tup, ↓W_lst, ↓W_call, ↓W_frz, ↓W_mkbox, ↓W_app, ↓W_enil, ↓W_econs, ↓W_rng1, ↓W_rng2, ↓W_seq, ↓W_asg, ↓W_asgO, ↓W_asgT, ↓W_aug, ↓W_setix, ↓W_expr, ↓W_ret, ↓W_retN, ↓W_pass, ↓W_brk, ↓W_cont, ↓W_raise, ↓W_if, ↓W_for, ↓W_nil, ↓W_cons, ↓W_try, ↓W_ok, ↓W_exc, ↓WC_ok, ↓WC_exc, ↓WK_ok, ↓WK_exc, ↓TW_b, ↓DW_v, ↓DW_n, ↓IT_t, ↓IT_f, ↓IT_dt, ↓IT_df, IT_dt, IT_df, ↓IT_e1, ↓IT_e2, ↓IT_e3, ↓IT_e4, ↓IT_n, ↓IT_a, ↓SlW_v, ↓SlW_o, ↓OW_s, ↓FW_nx, ↓FW_rt, ↓FW_bk, ↓FW_ct, ↓RW_v, ↓RW_n, ↓RW_o, ↓bh_v, ↓bh_n, ↓bh_o, ↓Gam_glob, ↓D_add, ↓D_sub, ↓D_mul, ↓D_fdiv, ↓D_mod, ↓D_band, ↓D_bor, ↓D_bxor, ↓D_shl, ↓D_shr, ↓D_lt, ↓D_le, ↓D_gt, ↓D_ge, ↓D_eqi, ↓D_nei, ↓D_eqb, ↓D_eqll, ↓D_nell, ↓D_eqnn, ↓D_nenn, ↓D_eqnl, ↓D_nenl, ↓D_eqln, ↓D_neln, ↓D_eqtt, ↓D_nett, ↓D_ill, ↓D_itt, ↓D_neb, ↓D_isN, ↓D_inN, ↓D_isi1, ↓D_ini1, ↓D_ist1, ↓D_int1, ↓D_isl1, ↓D_inl1, ↓D_isn1, ↓D_inn1, ↓D_isb1, ↓D_inb1, ↓D_neg, ↓D_abs, ↓D_int, ↓D_intb, ↓D_lenT, ↓D_lenL, ↓D_lenS, ↓D_lenN, ↓D_lenB, ↓D_lenO, ↓D_max, ↓D_min, ↓D_ixT, ↓D_ixL, ↓D_ixS, ↓D_ixN, ↓D_ixB, ↓D_ixO, ↓D_setB, ↓D_setO, ↓D_appO, ↓D_lof, ↓D_catNN, ↓D_catNL, ↓D_catLN, ↓D_catLL, ↓D_ii, ↓D_ib, ↓D_bi, ↓D_bb, ↓BW_s, ↓OnW_s, ↓OnB_s, ↓VW_rv, ↓VW_rn, ↓VW_nx, ↓RV_rv, ↓at0, ↓at1, ↓at2, ↓at3, ↓Au_add, ↓Au_sub, ↓Au_bor, ↓Au_mul, ↓sT0, ↓sTS, ↓I1W_i, ↓I2W_i, ↓I3W_l, ↓I3W_s, ↓I3W_t, ↓I3W_n, ↓stepQ_nx, ↓stepQ_ct, ↓stepQ_bk, ↓stepQ_rt, ↓sE, ↓eg0, ↓egS, ↓st0, ↓stS, ↓true_and, ↓and_true, ↓eq_self, ↓isF_v, ↓isF_n, ↓decide_true, ↓decide_false, ↓Bool.not_true, ↓Bool.not_false, List.set_cons_zero, List.set_cons_succ, at4, at5, at6, at7, nAdd, nAddR, nAddL, nMul, nMulR, nMulL, nSub, nSubR, nSubL, nDiv, nDivR, nDivL, nMod, nModR, nBandR, nBorR, nBorL, nShl, nShlL, nShr, nToNat, nMin, nMax, Int.toNat_natCast, band_nat, bor_nat, Nat.zero_add, natsD_len, ↓D_neN, decide_eq_false h, hm, hT, lc, hg, ↓D_ix0C, ↓D_eqS, cl_bid, ew, ed, er, ↓D_eqC, reduceCtorEq, decide_false]
            with_reducible and_intros
            all_goals first | omega | decide | exact f1
          | rdb =>
            rw [hc] at ed0 hg
            have f1 := fin [.pass] (by decide) (by rw [ed0]; rfl)
            rw [← p1] at f1
            have ew : (Cl.rdb).isBid = false := rfl
            simp -implicitDefEqProofs -dsimp (disch := omega) only [bLL6, bLL5, bLL3, List.map, List.length, List.replicate, List.cons_append, List.nil_append, ↓W_dt, ↓W_fld, ↓W_meth, ↓W_make, ↓MkW_n, ↓W_popl, ↓W_setf, ↓W_augx, ↓W_asgM, ↓Gam_ncl, ↓EnW_l, ↓EnW_s, ↓EnW_n, ↓EnW_f, ↓EnW_b, ↓LG_rng, ↓LG_seq, ↓LG_enum, ↓LG_zip, ↓LG_str, ↓LG_seqR, ↓LG_enumR, ↓I3W_f, ↓I3W_b, ↓InW_s, ↓FdW_v, ↓FdW_o, ↓FdW_d, ↓InB_s, ↓D_fld, ↓D_meth, ↓D_setf, ↓SO_v, ↓SO_n, ↓SO_nf, ↓SO_d, ↓sq_f, ↓live_f, ↓live_b, ↓D_lenF, ↓D_ixF, ↓D_appF, ↓D_setF, ↓D_poplF, ↓D_lofF, ↓tp0, ↓tpS, ↓bh_f, ↓CG_rng, ↓CG_seq, ↓CG_enum, ↓CG_zip, ↓CG_str, ↓CG_seqR, ↓CG_enumR, ↓W_var, ↓W_cst, ↓W_glob, ↓W_bin, ↓W_cmp, ↓W_ix, ↓W_un, ↓W_blt, ↓W_blt2, ↓W_isi, ↓W_bits, ↓W_idx, ↓W_find, ↓W_pop, ↓W_dnew, ↓W_dix, ↓W_din, ↓W_sset, ↓D_sset, ↓W_lrg1, ↓W_lrg2, ↓W_dput, ↓StW_s, ↓ViW_i, ↓VaW_v, ↓SlW_d, ↓bh_nd, ↓OdW_s, ↓LnW_o, ↓LnW_d, ↓D_pop, ↓D_dixI, ↓D_dixS, ↓D_dinI, ↓D_dinS, ↓D_dputI, ↓D_dputS, ↓D_find, ↓D_lrg, ↓W_enum, ↓W_zip, ↓W_istr, ↓lstP_l, ↓lstP_s, ↓lstP_n, ↓lstQ_l, ↓W_revl, ↓W_revs, ↓W_sl, ↓W_bind, ↓W_partT, ↓W_partF, ↓PaW_i, ↓D_list, ↓D_tuple, ↓D_sum, ↓D_sorted, ↓D_maxl, ↓D_minl, ↓D_str, ↓D_bits, ↓D_revS, ↓D_revL, ↓D_revN, ↓seq_t, ↓seq_l, ↓seq_s, ↓seq_n, ↓seq_b, ↓seq_o, ↓ints_n, ↓ints_l, ↓inta_n, ↓inta_l, ↓inta_t, ↓W_exi, ↓W_chain, ↓W_not, ↓W_and, ↓W_or, ↓W_ife, ↓W_tup, ↓W_lst, ↓W_call, ↓W_frz, ↓W_mkbox, ↓W_app, ↓W_enil, ↓W_econs, ↓W_rng1, ↓W_rng2, ↓W_seq, ↓W_asg, ↓W_asgO, ↓W_asgT, ↓W_aug, ↓W_setix, ↓W_expr, ↓W_ret, ↓W_retN, ↓W_pass, ↓W_brk, ↓W_cont, ↓W_raise, ↓W_if, ↓W_for, ↓W_nil, ↓W_cons, ↓W_try, ↓W_ok, ↓W_exc, ↓WC_ok, ↓WC_exc, ↓WK_ok, ↓WK_exc, ↓TW_b, ↓DW_v, ↓DW_n, ↓IT_t, ↓IT_f, ↓IT_dt, ↓IT_df, IT_dt, IT_df, ↓IT_e1, ↓IT_e2, ↓IT_e3, ↓IT_e4, ↓IT_n, ↓IT_a, ↓SlW_v, ↓SlW_o, ↓OW_s, ↓FW_nx, ↓FW_rt, ↓FW_bk, ↓FW_ct, ↓RW_v, ↓RW_n, ↓RW_o, ↓bh_v, ↓bh_n, ↓bh_o, ↓Gam_glob, ↓D_add, ↓D_sub, ↓D_mul, ↓D_fdiv, ↓D_mod, ↓D_band, ↓D_bor, ↓D_bxor, ↓D_shl, ↓D_shr, ↓D_lt, ↓D_le, ↓D_gt, ↓D_ge, ↓D_eqi, ↓D_nei, ↓D_eqb, ↓D_eqll, ↓D_nell, ↓D_eqnn, ↓D_nenn, ↓D_eqnl, ↓D_nenl, ↓D_eqln, ↓D_neln, ↓D_eqtt, ↓D_nett, ↓D_ill, ↓D_itt, ↓D_neb, ↓D_isN, ↓D_inN, ↓D_isi1, ↓D_ini1, ↓D_ist1, ↓D_int1, ↓D_isl1, ↓D_inl1, ↓D_isn1, ↓D_inn1, ↓D_isb1, ↓D_inb1, ↓D_neg, ↓D_abs, ↓D_int, ↓D_intb, ↓D_lenT, ↓D_lenL, ↓D_lenS, ↓D_lenN, ↓D_lenB, ↓D_lenO, ↓D_max, ↓D_min, ↓D_ixT, ↓D_ixL, ↓D_ixS, ↓D_ixN, ↓D_ixB, ↓D_ixO, ↓D_setB, ↓D_setO, ↓D_appO, ↓D_lof, ↓D_catNN, ↓D_catNL, ↓D_catLN, ↓D_catLL, ↓D_ii, ↓D_ib, ↓D_bi, ↓D_bb, ↓BW_s, ↓OnW_s, ↓OnB_s, ↓VW_rv, ↓VW_rn, ↓VW_nx, ↓RV_rv, ↓at0, ↓at1, ↓at2, ↓at3, ↓Au_add, ↓Au_sub, ↓Au_bor, ↓Au_mul, ↓sT0, ↓sTS, ↓I1W_i, ↓I2W_i, ↓I3W_l, ↓I3W_s, ↓I3W_t, ↓I3W_n, ↓stepQ_nx, ↓stepQ_ct, ↓stepQ_bk, ↓stepQ_rt, ↓sE, ↓eg0, ↓egS, ↓st0, ↓stS, ↓true_and, ↓and_true, ↓eq_self, ↓isF_v, ↓isF_n, ↓decide_true, ↓decide_false, ↓Bool.not_true, ↓Bool.not_false, List.set_cons_zero, List.set_cons_succ, at4, at5, at6, at7, nAdd, nAddR, nAddL, nMul, nMulR, nMulL, nSub, nSubR, nSubL, nDiv, nDivR, nDivL, nMod, nModR, nBandR, nBorR, nBorL, nShl, nShlL, nShr, nToNat, nMin, nMax, Int.toNat_natCast, band_nat, bor_nat, Nat.zero_add, natsD_len, ↓D_neN, decide_eq_false h, hm, hT, lc, hg, ↓D_ix0C, ↓D_eqS, cl_bid, ew, ed, er, ↓D_eqC, reduceCtorEq, decide_false]
            with_reducible and_intros
            all_goals first | omega | decide | exact f1
        · rw [if_neg hp] at ed0
          have f1 := fin [.pass] (by decide) (by rw [ed0])
          rw [← p1] at f1
          simp -implicitDefEqProofs -dsimp (disch := omega) only [bLL6, List.map, List.length, List.replicate, List.cons_append, List.nil_append, ↓W_dt, ↓W_fld, ↓W_meth, ↓W_make, ↓MkW_n, ↓W_popl, ↓W_setf, ↓W_augx, ↓W_asgM, ↓Gam_ncl, ↓EnW_l, ↓EnW_s, ↓EnW_n, ↓EnW_f, ↓EnW_b, ↓LG_rng, ↓LG_seq, ↓LG_enum, ↓LG_zip, ↓LG_str, ↓LG_seqR, ↓LG_enumR, ↓I3W_f, ↓I3W_b, ↓InW_s, ↓FdW_v, ↓FdW_o, ↓FdW_d, ↓InB_s, ↓D_fld, ↓D_meth, ↓D_setf, ↓SO_v, ↓SO_n, ↓SO_nf, ↓SO_d, ↓sq_f, ↓live_f, ↓live_b, ↓D_lenF, ↓D_ixF, ↓D_appF, ↓D_setF, ↓D_poplF, ↓D_lofF, ↓tp0, ↓tpS, ↓bh_f, ↓CG_rng, ↓CG_seq, ↓CG_enum, ↓CG_zip, ↓CG_str, ↓CG_seqR, ↓CG_enumR, ↓W_var, ↓W_cst, ↓W_glob, ↓W_bin, ↓W_cmp, ↓W_ix, ↓W_un, ↓W_blt, ↓W_blt2, ↓W_isi, ↓W_bits, ↓W_idx, ↓W_find, ↓W_pop, ↓W_dnew, ↓W_dix, ↓W_din, ↓W_sset, ↓D_sset, ↓W_lrg1, ↓W_lrg2, ↓W_dput, ↓StW_s, ↓ViW_i, ↓VaW_v, ↓SlW_d, ↓bh_nd, ↓OdW_s, ↓LnW_o, ↓LnW_d, ↓D_pop, ↓D_dixI, ↓D_dixS, ↓D_dinI, ↓D_dinS, ↓D_dputI, ↓D_dputS, ↓D_find, ↓D_lrg, ↓W_enum, ↓W_zip, ↓W_istr, ↓lstP_l, ↓lstP_s, ↓lstP_n, ↓lstQ_l, ↓W_revl, ↓W_revs, ↓W_sl, ↓W_bind, ↓W_partT, ↓W_partF, ↓PaW_i, ↓D_list, ↓D_tuple, ↓D_sum, ↓D_sorted, ↓D_maxl, ↓D_minl, ↓D_str, ↓D_bits, ↓D_revS, ↓D_revL, ↓D_revN, ↓seq_t, ↓seq_l, ↓seq_s, ↓seq_n, ↓seq_b, ↓seq_o, ↓ints_n, ↓ints_l, ↓inta_n, ↓inta_l, ↓inta_t, ↓W_exi, ↓W_chain, ↓W_not, ↓W_and, ↓W_or, ↓W_ife, ↓W_tup, ↓W_lst, ↓W_call, ↓W_frz, ↓W_mkbox, ↓W_app, ↓W_enil, ↓W_econs, ↓W_rng1, ↓W_rng2, ↓W_seq, ↓W_asg, ↓W_asgO, ↓W_asgT, ↓W_aug, ↓W_setix, ↓W_expr, ↓W_ret, ↓W_retN, ↓W_pass, ↓W_brk, ↓W_cont, ↓W_raise, ↓W_if, ↓W_for, ↓W_nil, ↓W_cons, ↓W_try, ↓W_ok, ↓W_exc, ↓WC_ok, ↓WC_exc, ↓WK_ok, ↓WK_exc, ↓TW_b, ↓DW_v, ↓DW_n, ↓IT_t, ↓IT_f, ↓IT_dt, ↓IT_df, IT_dt, IT_df, ↓IT_e1, ↓IT_e2, ↓IT_e3, ↓IT_e4, ↓IT_n, ↓IT_a, ↓SlW_v, ↓SlW_o, ↓OW_s, ↓FW_nx, ↓FW_rt, ↓FW_bk, ↓FW_ct, ↓RW_v, ↓RW_n, ↓RW_o, ↓bh_v, ↓bh_n, ↓bh_o, ↓Gam_glob, ↓D_add, ↓D_sub, ↓D_mul, ↓D_fdiv, ↓D_mod, ↓D_band, ↓D_bor, ↓D_bxor, ↓D_shl, ↓D_shr, ↓D_lt, ↓D_le, ↓D_gt, ↓D_ge, ↓D_eqi, ↓D_nei, ↓D_eqb, ↓D_eqll, ↓D_nell, ↓D_eqnn, ↓D_nenn, ↓D_eqnl, ↓D_nenl, ↓D_eqln, ↓D_neln, ↓D_eqtt, ↓D_nett, ↓D_ill, ↓D_itt, ↓D_neb, ↓D_isN, ↓D_inN, ↓D_isi1, ↓D_ini1, ↓D_ist1, ↓D_int1, ↓D_isl1, ↓D_inl1, ↓D_isn1, ↓D_inn1, ↓D_isb1, ↓D_inb1, ↓D_neg, ↓D_abs, ↓D_int, ↓D_intb, ↓D_lenT, ↓D_lenL, ↓D_lenS, ↓D_lenN, ↓D_lenB, ↓D_lenO, ↓D_max, ↓D_min, ↓D_ixT, ↓D_ixL, ↓D_ixS, ↓D_ixN, ↓D_ixB, ↓D_ixO, ↓D_setB, ↓D_setO, ↓D_appO, ↓D_lof, ↓D_catNN, ↓D_catNL, ↓D_catLN, ↓D_catLL, ↓D_ii, ↓D_ib, ↓D_bi, ↓D_bb, ↓BW_s, ↓OnW_s, ↓OnB_s, ↓VW_rv, ↓VW_rn, ↓VW_nx, ↓RV_rv, ↓at0, ↓at1, ↓at2, ↓at3, ↓Au_add, ↓Au_sub, ↓Au_bor, ↓Au_mul, ↓sT0, ↓sTS, ↓I1W_i, ↓I2W_i, ↓I3W_l, ↓I3W_s, ↓I3W_t, ↓I3W_n, ↓stepQ_nx, ↓stepQ_ct, ↓stepQ_bk, ↓stepQ_rt, ↓sE, ↓eg0, ↓egS, ↓st0, ↓stS, ↓true_and, ↓and_true, ↓eq_self, ↓isF_v, ↓isF_n, ↓decide_true, ↓decide_false, ↓Bool.not_true, ↓Bool.not_false, List.set_cons_zero, List.set_cons_succ, at4, at5, at6, at7, nAdd, nAddR, nAddL, nMul, nMulR, nMulL, nSub, nSubR, nSubL, nDiv, nDivR, nDivL, nMod, nModR, nBandR, nBorR, nBorL, nShl, nShlL, nShr, nToNat, nMin, nMax, Int.toNat_natCast, band_nat, bor_nat, Nat.zero_add, natsD_len, ↓D_neN, decide_eq_false h, hm, hT, lc]
          with_reducible and_intros
          all_goals first | omega | decide | exact f1
/-- the next call: a legal one -/
theorem lan_run (hk : 1 < k) {ns : List Int} (g : GP ns) (a : Nat) (h1 : a < 10000) (L : List Cl) (hL : L ≠ []) (hl : L.length ≤ 1000) :
    ∃ (c : Cl) (a' : Nat), c ∈ L ∧ a ≤ a' ∧ a' ≤ a + 2 ∧ ∀ T, run p k A.fn false [.box 0, .lst (clsD L)] (poN ns a :: T) = .ok (.val c.dt) (poN ns a' :: T) := by
  have zl : sizeLine = 16777216 := rfl
  have pk := fun a m h1 hm T => pickN (k := k - 1) A.hp A.ap (by omega) g a m h1 hm T
  have p1 := pn_lt ns a 6 (by omega)
  have ll := clsD_len L
  have hpos : 0 < L.length := List.length_pos_iff.2 hL
  have mem : ∀ i, i < L.length → L.getD i .pass ∈ L := fun i h => by rw [List.getD_eq_getElem?_getD, List.getElem?_eq_getElem h]; exact List.getElem_mem h
  generalize hw : pn ns a 6 = w at p1
  have e0 := cls_get L 0 hpos
  rw [show ((0 : Nat) : Int) = 0 from rfl] at e0
  by_cases h : w < 2 ∨ L.length = 1
  · refine ⟨L.getD 0 .pass, a + 1, mem _ hpos, by omega, by omega, fun T => ?_⟩
    refine WC_eq (WC_run (by rw [A.an]; rfl) A.hn (by omega) ?_)
    by_cases h2 : w < 2
    · simp -implicitDefEqProofs -dsimp (disch := omega) only [bLN, bLN4, List.map, List.length, List.replicate, List.cons_append, List.nil_append, ↓W_dt, ↓W_fld, ↓W_meth, ↓W_make, ↓MkW_n, ↓W_popl, ↓W_setf, ↓W_augx, ↓W_asgM, ↓Gam_ncl, ↓EnW_l, ↓EnW_s, ↓EnW_n, ↓EnW_f, ↓EnW_b, ↓LG_rng, ↓LG_seq, ↓LG_enum, ↓LG_zip, ↓LG_str, ↓LG_seqR, ↓LG_enumR, ↓I3W_f, ↓I3W_b, ↓InW_s, ↓FdW_v, ↓FdW_o, ↓FdW_d, ↓InB_s, ↓D_fld, ↓D_meth, ↓D_setf, ↓SO_v, ↓SO_n, ↓SO_nf, ↓SO_d, ↓sq_f, ↓live_f, ↓live_b, ↓D_lenF, ↓D_ixF, ↓D_appF, ↓D_setF, ↓D_poplF, ↓D_lofF, ↓tp0, ↓tpS, ↓bh_f, ↓CG_rng, ↓CG_seq, ↓CG_enum, ↓CG_zip, ↓CG_str, ↓CG_seqR, ↓CG_enumR, ↓W_var, ↓W_cst, ↓W_glob, ↓W_bin, ↓W_cmp, ↓W_ix, ↓W_un, ↓W_blt, ↓W_blt2, ↓W_isi, ↓W_bits, ↓W_idx, ↓W_find, ↓W_pop, ↓W_dnew, ↓W_dix, ↓W_din, ↓W_sset, ↓D_sset, ↓W_lrg1, ↓W_lrg2, ↓W_dput, ↓StW_s, ↓ViW_i, ↓VaW_v, ↓SlW_d, ↓bh_nd, ↓OdW_s, ↓LnW_o, ↓LnW_d, ↓D_pop, ↓D_dixI, ↓D_dixS, ↓D_dinI, ↓D_dinS, ↓D_dputI, ↓D_dputS, ↓D_find, ↓D_lrg, ↓W_enum, ↓W_zip, ↓W_istr, ↓lstP_l, ↓lstP_s, ↓lstP_n, ↓lstQ_l, ↓W_revl, ↓W_revs, ↓W_sl, ↓W_bind, ↓W_partT, ↓W_partF, ↓PaW_i, ↓D_list, ↓D_tuple, ↓D_sum, ↓D_sorted, ↓D_maxl, ↓D_minl, ↓D_str, ↓D_bits, ↓D_revS, ↓D_revL, ↓D_revN, ↓seq_t, ↓seq_l, ↓seq_s, ↓seq_n, ↓seq_b, ↓seq_o, ↓ints_n, ↓ints_l, ↓inta_n, ↓inta_l, ↓inta_t, ↓W_exi, ↓W_chain, ↓W_not, ↓W_and, ↓W_or, ↓W_ife, ↓W_tup, ↓W_lst, ↓W_call, ↓W_frz, ↓W_mkbox, ↓W_app, ↓W_enil, ↓W_econs, ↓W_rng1, ↓W_rng2, ↓W_seq, ↓W_asg, ↓W_asgO, ↓W_asgT, ↓W_aug, ↓W_setix, ↓W_expr, ↓W_ret, ↓W_retN, ↓W_pass, ↓W_brk, ↓W_cont, ↓W_raise, ↓W_if, ↓W_for, ↓W_nil, ↓W_cons, ↓W_try, ↓W_ok, ↓W_exc, ↓WC_ok, ↓WC_exc, ↓WK_ok, ↓WK_exc, ↓TW_b, ↓DW_v, ↓DW_n, ↓IT_t, ↓IT_f, ↓IT_dt, ↓IT_df, IT_dt, IT_df, ↓IT_e1, ↓IT_e2, ↓IT_e3, ↓IT_e4, ↓IT_n, ↓IT_a, ↓SlW_v, ↓SlW_o, ↓OW_s, ↓FW_nx, ↓FW_rt, ↓FW_bk, ↓FW_ct, ↓RW_v, ↓RW_n, ↓RW_o, ↓bh_v, ↓bh_n, ↓bh_o, ↓Gam_glob, ↓D_add, ↓D_sub, ↓D_mul, ↓D_fdiv, ↓D_mod, ↓D_band, ↓D_bor, ↓D_bxor, ↓D_shl, ↓D_shr, ↓D_lt, ↓D_le, ↓D_gt, ↓D_ge, ↓D_eqi, ↓D_nei, ↓D_eqb, ↓D_eqll, ↓D_nell, ↓D_eqnn, ↓D_nenn, ↓D_eqnl, ↓D_nenl, ↓D_eqln, ↓D_neln, ↓D_eqtt, ↓D_nett, ↓D_ill, ↓D_itt, ↓D_neb, ↓D_isN, ↓D_inN, ↓D_isi1, ↓D_ini1, ↓D_ist1, ↓D_int1, ↓D_isl1, ↓D_inl1, ↓D_isn1, ↓D_inn1, ↓D_isb1, ↓D_inb1, ↓D_neg, ↓D_abs, ↓D_int, ↓D_intb, ↓D_lenT, ↓D_lenL, ↓D_lenS, ↓D_lenN, ↓D_lenB, ↓D_lenO, ↓D_max, ↓D_min, ↓D_ixT, ↓D_ixL, ↓D_ixS, ↓D_ixN, ↓D_ixB, ↓D_ixO, ↓D_setB, ↓D_setO, ↓D_appO, ↓D_lof, ↓D_catNN, ↓D_catNL, ↓D_catLN, ↓D_catLL, ↓D_ii, ↓D_ib, ↓D_bi, ↓D_bb, ↓BW_s, ↓OnW_s, ↓OnB_s, ↓VW_rv, ↓VW_rn, ↓VW_nx, ↓RV_rv, ↓at0, ↓at1, ↓at2, ↓at3, ↓Au_add, ↓Au_sub, ↓Au_bor, ↓Au_mul, ↓sT0, ↓sTS, ↓I1W_i, ↓I2W_i, ↓I3W_l, ↓I3W_s, ↓I3W_t, ↓I3W_n, ↓stepQ_nx, ↓stepQ_ct, ↓stepQ_bk, ↓stepQ_rt, ↓sE, ↓eg0, ↓egS, ↓st0, ↓stS, ↓true_and, ↓and_true, ↓eq_self, ↓isF_v, ↓isF_n, ↓decide_true, ↓decide_false, ↓Bool.not_true, ↓Bool.not_false, List.set_cons_zero, List.set_cons_succ, at4, at5, at6, at7, nAdd, nAddR, nAddL, nMul, nMulR, nMulL, nSub, nSubR, nSubL, nDiv, nDivR, nDivL, nMod, nModR, nBandR, nBorR, nBorL, nShl, nShlL, nShr, nToNat, nMin, nMax, Int.toNat_natCast, band_nat, bor_nat, Nat.zero_add, natsD_len, pk, hw, e0]
    · have h3 : L.length = 1 := by omega
      simp -implicitDefEqProofs -dsimp (disch := omega) only [bLN, bLN4, List.map, List.length, List.replicate, List.cons_append, List.nil_append, ↓W_dt, ↓W_fld, ↓W_meth, ↓W_make, ↓MkW_n, ↓W_popl, ↓W_setf, ↓W_augx, ↓W_asgM, ↓Gam_ncl, ↓EnW_l, ↓EnW_s, ↓EnW_n, ↓EnW_f, ↓EnW_b, ↓LG_rng, ↓LG_seq, ↓LG_enum, ↓LG_zip, ↓LG_str, ↓LG_seqR, ↓LG_enumR, ↓I3W_f, ↓I3W_b, ↓InW_s, ↓FdW_v, ↓FdW_o, ↓FdW_d, ↓InB_s, ↓D_fld, ↓D_meth, ↓D_setf, ↓SO_v, ↓SO_n, ↓SO_nf, ↓SO_d, ↓sq_f, ↓live_f, ↓live_b, ↓D_lenF, ↓D_ixF, ↓D_appF, ↓D_setF, ↓D_poplF, ↓D_lofF, ↓tp0, ↓tpS, ↓bh_f, ↓CG_rng, ↓CG_seq, ↓CG_enum, ↓CG_zip, ↓CG_str, ↓CG_seqR, ↓CG_enumR, ↓W_var, ↓W_cst, ↓W_glob, ↓W_bin, ↓W_cmp, ↓W_ix, ↓W_un, ↓W_blt, ↓W_blt2, ↓W_isi, ↓W_bits, ↓W_idx, ↓W_find, ↓W_pop, ↓W_dnew, ↓W_dix, ↓W_din, ↓W_sset, ↓D_sset, ↓W_lrg1, ↓W_lrg2, ↓W_dput, ↓StW_s, ↓ViW_i, ↓VaW_v, ↓SlW_d, ↓bh_nd, ↓OdW_s, ↓LnW_o, ↓LnW_d, ↓D_pop, ↓D_dixI, ↓D_dixS, ↓D_dinI, ↓D_dinS, ↓D_dputI, ↓D_dputS, ↓D_find, ↓D_lrg, ↓W_enum, ↓W_zip, ↓W_istr, ↓lstP_l, ↓lstP_s, ↓lstP_n, ↓lstQ_l, ↓W_revl, ↓W_revs, ↓W_sl, ↓W_bind, ↓W_partT, ↓W_partF, ↓PaW_i, ↓D_list, ↓D_tuple, ↓D_sum, ↓D_sorted, ↓D_maxl, ↓D_minl, ↓D_str, ↓D_bits, ↓D_revS, ↓D_revL, ↓D_revN, ↓seq_t, ↓seq_l, ↓seq_s, ↓seq_n, ↓seq_b, ↓seq_o, ↓ints_n, ↓ints_l, ↓inta_n, ↓inta_l, ↓inta_t, ↓W_exi, ↓W_chain, ↓W_not, ↓W_and, ↓W_or, ↓W_ife, ↓W_tup, ↓W_lst, ↓W_call, ↓W_frz, ↓W_mkbox, ↓W_app, ↓W_enil, ↓W_econs, ↓W_rng1, ↓W_rng2, ↓W_seq, ↓W_asg, ↓W_asgO, ↓W_asgT, ↓W_aug, ↓W_setix, ↓W_expr, ↓W_ret, ↓W_retN, ↓W_pass, ↓W_brk, ↓W_cont, ↓W_raise, ↓W_if, ↓W_for, ↓W_nil, ↓W_cons, ↓W_try, ↓W_ok, ↓W_exc, ↓WC_ok, ↓WC_exc, ↓WK_ok, ↓WK_exc, ↓TW_b, ↓DW_v, ↓DW_n, ↓IT_t, ↓IT_f, ↓IT_dt, ↓IT_df, IT_dt, IT_df, ↓IT_e1, ↓IT_e2, ↓IT_e3, ↓IT_e4, ↓IT_n, ↓IT_a, ↓SlW_v, ↓SlW_o, ↓OW_s, ↓FW_nx, ↓FW_rt, ↓FW_bk, ↓FW_ct, ↓RW_v, ↓RW_n, ↓RW_o, ↓bh_v, ↓bh_n, ↓bh_o, ↓Gam_glob, ↓D_add, ↓D_sub, ↓D_mul, ↓D_fdiv, ↓D_mod, ↓D_band, ↓D_bor, ↓D_bxor, ↓D_shl, ↓D_shr, ↓D_lt, ↓D_le, ↓D_gt, ↓D_ge, ↓D_eqi, ↓D_nei, ↓D_eqb, ↓D_eqll, ↓D_nell, ↓D_eqnn, ↓D_nenn, ↓D_eqnl, ↓D_nenl, ↓D_eqln, ↓D_neln, ↓D_eqtt, ↓D_nett, ↓D_ill, ↓D_itt, ↓D_neb, ↓D_isN, ↓D_inN, ↓D_isi1, ↓D_ini1, ↓D_ist1, ↓D_int1, ↓D_isl1, ↓D_inl1, ↓D_isn1, ↓D_inn1, ↓D_isb1, ↓D_inb1, ↓D_neg, ↓D_abs, ↓D_int, ↓D_intb, ↓D_lenT, ↓D_lenL, ↓D_lenS, ↓D_lenN, ↓D_lenB, ↓D_lenO, ↓D_max, ↓D_min, ↓D_ixT, ↓D_ixL, ↓D_ixS, ↓D_ixN, ↓D_ixB, ↓D_ixO, ↓D_setB, ↓D_setO, ↓D_appO, ↓D_lof, ↓D_catNN, ↓D_catNL, ↓D_catLN, ↓D_catLL, ↓D_ii, ↓D_ib, ↓D_bi, ↓D_bb, ↓BW_s, ↓OnW_s, ↓OnB_s, ↓VW_rv, ↓VW_rn, ↓VW_nx, ↓RV_rv, ↓at0, ↓at1, ↓at2, ↓at3, ↓Au_add, ↓Au_sub, ↓Au_bor, ↓Au_mul, ↓sT0, ↓sTS, ↓I1W_i, ↓I2W_i, ↓I3W_l, ↓I3W_s, ↓I3W_t, ↓I3W_n, ↓stepQ_nx, ↓stepQ_ct, ↓stepQ_bk, ↓stepQ_rt, ↓sE, ↓eg0, ↓egS, ↓st0, ↓stS, ↓true_and, ↓and_true, ↓eq_self, ↓isF_v, ↓isF_n, ↓decide_true, ↓decide_false, ↓Bool.not_true, ↓Bool.not_false, List.set_cons_zero, List.set_cons_succ, at4, at5, at6, at7, nAdd, nAddR, nAddL, nMul, nMulR, nMulL, nSub, nSubR, nSubL, nDiv, nDivR, nDivL, nMod, nModR, nBandR, nBorR, nBorL, nShl, nShlL, nShr, nToNat, nMin, nMax, Int.toNat_natCast, band_nat, bor_nat, Nat.zero_add, natsD_len, pk, hw, e0, ll, h3]
  · by_cases h2 : w = 2
    · subst h2
      refine ⟨L.getD (L.length - 1) .pass, a + 1, mem _ (by omega), by omega, by omega, fun T => ?_⟩
      refine WC_eq (WC_run (by rw [A.an]; rfl) A.hn (by omega) ?_)
      have en : atI (clsD L) (-1) = some (L.getD (L.length - 1) .pass).dt := by
        rw [at_lastN _ (by omega), cls_get?, ll, List.getElem?_eq_getElem (by omega), List.getD_eq_getElem?_getD, List.getElem?_eq_getElem (by omega)]; rfl
      simp -implicitDefEqProofs -dsimp (disch := omega) only [bLN, bLN3, bLN2, List.map, List.length, List.replicate, List.cons_append, List.nil_append, ↓W_dt, ↓W_fld, ↓W_meth, ↓W_make, ↓MkW_n, ↓W_popl, ↓W_setf, ↓W_augx, ↓W_asgM, ↓Gam_ncl, ↓EnW_l, ↓EnW_s, ↓EnW_n, ↓EnW_f, ↓EnW_b, ↓LG_rng, ↓LG_seq, ↓LG_enum, ↓LG_zip, ↓LG_str, ↓LG_seqR, ↓LG_enumR, ↓I3W_f, ↓I3W_b, ↓InW_s, ↓FdW_v, ↓FdW_o, ↓FdW_d, ↓InB_s, ↓D_fld, ↓D_meth, ↓D_setf, ↓SO_v, ↓SO_n, ↓SO_nf, ↓SO_d, ↓sq_f, ↓live_f, ↓live_b, ↓D_lenF, ↓D_ixF, ↓D_appF, ↓D_setF, ↓D_poplF, ↓D_lofF, ↓tp0, ↓tpS, ↓bh_f, ↓CG_rng, ↓CG_seq, ↓CG_enum, ↓CG_zip, ↓CG_str, ↓CG_seqR, ↓CG_enumR, ↓W_var, ↓W_cst, ↓W_glob, ↓W_bin, ↓W_cmp, ↓W_ix, ↓W_un, ↓W_blt, ↓W_blt2, ↓W_isi, ↓W_bits, ↓W_idx, ↓W_find, ↓W_pop, ↓W_dnew, ↓W_dix, ↓W_din, ↓W_sset, ↓D_sset, ↓W_lrg1, ↓W_lrg2, ↓W_dput, ↓StW_s, ↓ViW_i, ↓VaW_v, ↓SlW_d, ↓bh_nd, ↓OdW_s, ↓LnW_o, ↓LnW_d, ↓D_pop, ↓D_dixI, ↓D_dixS, ↓D_dinI, ↓D_dinS, ↓D_dputI, ↓D_dputS, ↓D_find, ↓D_lrg, ↓W_enum, ↓W_zip, ↓W_istr, ↓lstP_l, ↓lstP_s, ↓lstP_n, ↓lstQ_l, ↓W_revl, ↓W_revs, ↓W_sl, ↓W_bind, ↓W_partT, ↓W_partF, ↓PaW_i, ↓D_list, ↓D_tuple, ↓D_sum, ↓D_sorted, ↓D_maxl, ↓D_minl, ↓D_str, ↓D_bits, ↓D_revS, ↓D_revL, ↓D_revN, ↓seq_t, ↓seq_l, ↓seq_s, ↓seq_n, ↓seq_b, ↓seq_o, ↓ints_n, ↓ints_l, ↓inta_n, ↓inta_l, ↓inta_t, ↓W_exi, ↓W_chain, ↓W_not, ↓W_and, ↓W_or, ↓W_ife, ↓W_tup, ↓W_lst, ↓W_call, ↓W_frz, ↓W_mkbox, ↓W_app, ↓W_enil, ↓W_econs, ↓W_rng1, ↓W_rng2, ↓W_seq, ↓W_asg, ↓W_asgO, ↓W_asgT, ↓W_aug, ↓W_setix, ↓W_expr, ↓W_ret, ↓W_retN, ↓W_pass, ↓W_brk, ↓W_cont, ↓W_raise, ↓W_if, ↓W_for, ↓W_nil, ↓W_cons, ↓W_try, ↓W_ok, ↓W_exc, ↓WC_ok, ↓WC_exc, ↓WK_ok, ↓WK_exc, ↓TW_b, ↓DW_v, ↓DW_n, ↓IT_t, ↓IT_f, ↓IT_dt, ↓IT_df, IT_dt, IT_df, ↓IT_e1, ↓IT_e2, ↓IT_e3, ↓IT_e4, ↓IT_n, ↓IT_a, ↓SlW_v, ↓SlW_o, ↓OW_s, ↓FW_nx, ↓FW_rt, ↓FW_bk, ↓FW_ct, ↓RW_v, ↓RW_n, ↓RW_o, ↓bh_v, ↓bh_n, ↓bh_o, ↓Gam_glob, ↓D_add, ↓D_sub, ↓D_mul, ↓D_fdiv, ↓D_mod, ↓D_band, ↓D_bor, ↓D_bxor, ↓D_shl, ↓D_shr, ↓D_lt, ↓D_le, ↓D_gt, ↓D_ge, ↓D_eqi, ↓D_nei, ↓D_eqb, ↓D_eqll, ↓D_nell, ↓D_eqnn, ↓D_nenn, ↓D_eqnl, ↓D_nenl, ↓D_eqln, ↓D_neln, ↓D_eqtt, ↓D_nett, ↓D_ill, ↓D_itt, ↓D_neb, ↓D_isN, ↓D_inN, ↓D_isi1, ↓D_ini1, ↓D_ist1, ↓D_int1, ↓D_isl1, ↓D_inl1, ↓D_isn1, ↓D_inn1, ↓D_isb1, ↓D_inb1, ↓D_neg, ↓D_abs, ↓D_int, ↓D_intb, ↓D_lenT, ↓D_lenL, ↓D_lenS, ↓D_lenN, ↓D_lenB, ↓D_lenO, ↓D_max, ↓D_min, ↓D_ixT, ↓D_ixL, ↓D_ixS, ↓D_ixN, ↓D_ixB, ↓D_ixO, ↓D_setB, ↓D_setO, ↓D_appO, ↓D_lof, ↓D_catNN, ↓D_catNL, ↓D_catLN, ↓D_catLL, ↓D_ii, ↓D_ib, ↓D_bi, ↓D_bb, ↓BW_s, ↓OnW_s, ↓OnB_s, ↓VW_rv, ↓VW_rn, ↓VW_nx, ↓RV_rv, ↓at0, ↓at1, ↓at2, ↓at3, ↓Au_add, ↓Au_sub, ↓Au_bor, ↓Au_mul, ↓sT0, ↓sTS, ↓I1W_i, ↓I2W_i, ↓I3W_l, ↓I3W_s, ↓I3W_t, ↓I3W_n, ↓stepQ_nx, ↓stepQ_ct, ↓stepQ_bk, ↓stepQ_rt, ↓sE, ↓eg0, ↓egS, ↓st0, ↓stS, ↓true_and, ↓and_true, ↓eq_self, ↓isF_v, ↓isF_n, ↓decide_true, ↓decide_false, ↓Bool.not_true, ↓Bool.not_false, List.set_cons_zero, List.set_cons_succ, at4, at5, at6, at7, nAdd, nAddR, nAddL, nMul, nMulR, nMulL, nSub, nSubR, nSubL, nDiv, nDivR, nDivL, nMod, nModR, nBandR, nBorR, nBorL, nShl, nShlL, nShr, nToNat, nMin, nMax, Int.toNat_natCast, band_nat, bor_nat, Nat.zero_add, natsD_len, pk, hw, ll, en]
    · have hmm : (if ((L.length - 1 : Nat) : Int) < 3 then ((L.length - 1 : Nat) : Int) else 3) = ((if L.length - 1 < 3 then L.length - 1 else 3 : Nat) : Int) := by split <;> split <;> omega
      have hM : (if L.length - 1 < 3 then L.length - 1 else 3) < L.length ∧ 0 < (if L.length - 1 < 3 then L.length - 1 else 3) := by split <;> omega
      generalize (if L.length - 1 < 3 then L.length - 1 else 3) = M at hmm hM
      have p2 := pn_lt ns (a + 1) (M : Int) (by omega)
      generalize hv : pn ns (a + 1) (M : Int) = v at p2
      refine ⟨L.getD (1 + v) .pass, a + 2, mem _ (by omega), by omega, by omega, fun T => ?_⟩
      have e := cls_get L (1 + v) (by omega)
      refine WC_eq (WC_run (by rw [A.an]; rfl) A.hn (by omega) ?_)
      simp -implicitDefEqProofs -dsimp (disch := omega) only [bLN, bLN3, bLN1, List.map, List.length, List.replicate, List.cons_append, List.nil_append, ↓W_dt, ↓W_fld, ↓W_meth, ↓W_make, ↓MkW_n, ↓W_popl, ↓W_setf, ↓W_augx, ↓W_asgM, ↓Gam_ncl, ↓EnW_l, ↓EnW_s, ↓EnW_n, ↓EnW_f, ↓EnW_b, ↓LG_rng, ↓LG_seq, ↓LG_enum, ↓LG_zip, ↓LG_str, ↓LG_seqR, ↓LG_enumR, ↓I3W_f, ↓I3W_b, ↓InW_s, ↓FdW_v, ↓FdW_o, ↓FdW_d, ↓InB_s, ↓D_fld, ↓D_meth, ↓D_setf, ↓SO_v, ↓SO_n, ↓SO_nf, ↓SO_d, ↓sq_f, ↓live_f, ↓live_b, ↓D_lenF, ↓D_ixF, ↓D_appF, ↓D_setF, ↓D_poplF, ↓D_lofF, ↓tp0, ↓tpS, ↓bh_f, ↓CG_rng, ↓CG_seq, ↓CG_enum, ↓CG_zip, ↓CG_str, ↓CG_seqR, ↓CG_enumR, ↓W_var, ↓W_cst, ↓W_glob, ↓W_bin, ↓W_cmp, ↓W_ix, ↓W_un, ↓W_blt, ↓W_blt2, ↓W_isi, ↓W_bits, ↓W_idx, ↓W_find, ↓W_pop, ↓W_dnew, ↓W_dix, ↓W_din, ↓W_sset, ↓D_sset, ↓W_lrg1, ↓W_lrg2, ↓W_dput, ↓StW_s, ↓ViW_i, ↓VaW_v, ↓SlW_d, ↓bh_nd, ↓OdW_s, ↓LnW_o, ↓LnW_d, ↓D_pop, ↓D_dixI, ↓D_dixS, ↓D_dinI, ↓D_dinS, ↓D_dputI, ↓D_dputS, ↓D_find, ↓D_lrg, ↓W_enum, ↓W_zip, ↓W_istr, ↓lstP_l, ↓lstP_s, ↓lstP_n, ↓lstQ_l, ↓W_revl, ↓W_revs, ↓W_sl, ↓W_bind, ↓W_partT, ↓W_partF, ↓PaW_i, ↓D_list, ↓D_tuple, ↓D_sum, ↓D_sorted, ↓D_maxl, ↓D_minl, ↓D_str, ↓D_bits, ↓D_revS, ↓D_revL, ↓D_revN, ↓seq_t, ↓seq_l, ↓seq_s, ↓seq_n, ↓seq_b, ↓seq_o, ↓ints_n, ↓ints_l, ↓inta_n, ↓inta_l, ↓inta_t, ↓W_exi, ↓W_chain, ↓W_not, ↓W_and, ↓W_or, ↓W_ife, ↓W_tup, ↓W_lst, ↓W_call, ↓W_frz, ↓W_mkbox, ↓W_app, ↓W_enil, ↓W_econs, ↓W_rng1, ↓W_rng2, ↓W_seq, ↓W_asg, ↓W_asgO, ↓W_asgT, ↓W_aug, ↓W_setix, ↓W_expr, ↓W_ret, ↓W_retN, ↓W_pass, ↓W_brk, ↓W_cont, ↓W_raise, ↓W_if, ↓W_for, ↓W_nil, ↓W_cons, ↓W_try, ↓W_ok, ↓W_exc, ↓WC_ok, ↓WC_exc, ↓WK_ok, ↓WK_exc, ↓TW_b, ↓DW_v, ↓DW_n, ↓IT_t, ↓IT_f, ↓IT_dt, ↓IT_df, IT_dt, IT_df, ↓IT_e1, ↓IT_e2, ↓IT_e3, ↓IT_e4, ↓IT_n, ↓IT_a, ↓SlW_v, ↓SlW_o, ↓OW_s, ↓FW_nx, ↓FW_rt, ↓FW_bk, ↓FW_ct, ↓RW_v, ↓RW_n, ↓RW_o, ↓bh_v, ↓bh_n, ↓bh_o, ↓Gam_glob, ↓D_add, ↓D_sub, ↓D_mul, ↓D_fdiv, ↓D_mod, ↓D_band, ↓D_bor, ↓D_bxor, ↓D_shl, ↓D_shr, ↓D_lt, ↓D_le, ↓D_gt, ↓D_ge, ↓D_eqi, ↓D_nei, ↓D_eqb, ↓D_eqll, ↓D_nell, ↓D_eqnn, ↓D_nenn, ↓D_eqnl, ↓D_nenl, ↓D_eqln, ↓D_neln, ↓D_eqtt, ↓D_nett, ↓D_ill, ↓D_itt, ↓D_neb, ↓D_isN, ↓D_inN, ↓D_isi1, ↓D_ini1, ↓D_ist1, ↓D_int1, ↓D_isl1, ↓D_inl1, ↓D_isn1, ↓D_inn1, ↓D_isb1, ↓D_inb1, ↓D_neg, ↓D_abs, ↓D_int, ↓D_intb, ↓D_lenT, ↓D_lenL, ↓D_lenS, ↓D_lenN, ↓D_lenB, ↓D_lenO, ↓D_max, ↓D_min, ↓D_ixT, ↓D_ixL, ↓D_ixS, ↓D_ixN, ↓D_ixB, ↓D_ixO, ↓D_setB, ↓D_setO, ↓D_appO, ↓D_lof, ↓D_catNN, ↓D_catNL, ↓D_catLN, ↓D_catLL, ↓D_ii, ↓D_ib, ↓D_bi, ↓D_bb, ↓BW_s, ↓OnW_s, ↓OnB_s, ↓VW_rv, ↓VW_rn, ↓VW_nx, ↓RV_rv, ↓at0, ↓at1, ↓at2, ↓at3, ↓Au_add, ↓Au_sub, ↓Au_bor, ↓Au_mul, ↓sT0, ↓sTS, ↓I1W_i, ↓I2W_i, ↓I3W_l, ↓I3W_s, ↓I3W_t, ↓I3W_n, ↓stepQ_nx, ↓stepQ_ct, ↓stepQ_bk, ↓stepQ_rt, ↓sE, ↓eg0, ↓egS, ↓st0, ↓stS, ↓true_and, ↓and_true, ↓eq_self, ↓isF_v, ↓isF_n, ↓decide_true, ↓decide_false, ↓Bool.not_true, ↓Bool.not_false, List.set_cons_zero, List.set_cons_succ, at4, at5, at6, at7, nAdd, nAddR, nAddL, nMul, nMulR, nMulL, nSub, nSubR, nSubL, nDiv, nDivR, nDivL, nMod, nModR, nBandR, nBorR, nBorL, nShl, nShlL, nShr, nToNat, nMin, nMax, Int.toNat_natCast, band_nat, bor_nat, Nat.zero_add, natsD_len, pk, hw, ll, hmm, hv, e]
end
end EV
namespace EV
open PySem PySem.Spec PyProof.Rows L2
/-! equality of plain data: no truth values, no boxes -/
mutual
def dtEq : Dt → Dt → Bool
  | .non, .non => true
  | .int i, .int j => decide (i = j)
  | .str x, .str y => decide (x = y)
  | .tup a, .tup b => dtEqs a b
  | .lst a, .lst b => dtEqs a b
  | _, _ => false
def dtEqs : List Dt → List Dt → Bool
  | [], [] => true
  | a :: as, b :: bs => dtEq a b && dtEqs as bs
  | _, _ => false
end
def okE : Nat → Dt → Bool
  | _, .non => true
  | _, .int _ => true
  | _, .str x => PyData.strOk x
  | n + 1, .tup ds => ds.all (okE n)
  | n + 1, .lst ds => ds.all (okE n)
  | _, _ => false
theorem okE_py : ∀ (n : Nat) (d : Dt), okE n d = true → ∃ p, toPy d = some p ∧ p.canLay0 = true ∧ p.depth ≤ n := by
  intro n
  induction n with
  | zero =>
    intro d h
    cases d with
    | non => exact ⟨_, rfl, rfl, Nat.le_refl _⟩
    | int i => exact ⟨_, rfl, rfl, Nat.le_refl _⟩
    | str x => exact ⟨_, rfl, h, Nat.le_refl _⟩
    | _ => cases h
  | succ n ih =>
    have hl : ∀ ds : List Dt, ds.all (okE n) = true → ∃ ps, toPys ds = some ps ∧ PyData.canLayAll0 ps = true ∧ PyData.depthAll ps ≤ n := by
      intro ds
      induction ds with
      | nil => intro _; exact ⟨[], rfl, rfl, Nat.zero_le _⟩
      | cons d ds ih2 =>
        intro h
        rw [List.all_cons, Bool.and_eq_true] at h
        obtain ⟨p, e1, e2, e3⟩ := ih d h.1
        obtain ⟨ps, e4, e5, e6⟩ := ih2 h.2
        refine ⟨p :: ps, ?_, ?_, ?_⟩
        · show (match toPy d, toPys ds with | some x, some xs => some (x :: xs) | _, _ => none) = _
          rw [e1, e4]
        · show (p.canLay0 && PyData.canLayAll0 ps) = true
          rw [e2, e5]; rfl
        · show max p.depth (PyData.depthAll ps) ≤ n
          omega
    intro d h
    cases d with
    | non => exact ⟨_, rfl, rfl, Nat.zero_le _⟩
    | int i => exact ⟨_, rfl, rfl, Nat.zero_le _⟩
    | str x => exact ⟨_, rfl, h, Nat.zero_le _⟩
    | tup ds =>
      obtain ⟨ps, e1, e2, e3⟩ := hl ds h
      exact ⟨.tuple ps, by show (toPys ds).map _ = _; rw [e1]; rfl, e2, Nat.succ_le_succ e3⟩
    | lst ds =>
      obtain ⟨ps, e1, e2, e3⟩ := hl ds h
      exact ⟨.list ps, by show (toPys ds).map _ = _; rw [e1]; rfl, e2, Nat.succ_le_succ e3⟩
    | _ => cases h
theorem toPys_cons {d : Dt} {ds : List Dt} {p : List PyData} (h : toPys (d :: ds) = some p) : ∃ x xs, toPy d = some x ∧ toPys ds = some xs ∧ p = x :: xs := by
  have h : (match toPy d, toPys ds with | some x, some xs => some (x :: xs) | _, _ => none) = some p := h
  cases e1 : toPy d with
  | none => rw [e1] at h; cases h
  | some x =>
    cases e2 : toPys ds with
    | none => rw [e1, e2] at h; cases h
    | some xs => rw [e1, e2] at h; cases h; exact ⟨x, xs, rfl, rfl, rfl⟩
theorem okE_eqv : ∀ (n : Nat) (a b : Dt) (p q : PyData), okE n a = true → okE n b = true → toPy a = some p → toPy b = some q → PyData.eqv p q = dtEq a b := by
  intro n
  induction n with
  | zero =>
    intro a b p q ha hb hp hq
    cases a <;> first | (cases ha; done) | skip
    all_goals (cases b <;> first | (cases hb; done) | skip)
    all_goals (cases hp; cases hq)
    all_goals first | rfl | skip
    all_goals (simp only [PyData.eqv, dtEq]; rw [Bool.eq_iff_iff]; simp)
  | succ n ih =>
    have hl : ∀ (as bs : List Dt) (p q : List PyData), as.all (okE n) = true → bs.all (okE n) = true → toPys as = some p → toPys bs = some q → PyData.eqvAll p q = dtEqs as bs := by
      intro as
      induction as with
      | nil =>
        intro bs p q _ _ hp hq
        cases hp
        cases bs with
        | nil => cases hq; rfl
        | cons b bs =>
          obtain ⟨x, xs, _, _, rfl⟩ := toPys_cons hq
          rfl
      | cons a as ih2 =>
        intro bs p q h1 h2 hp hq
        obtain ⟨x, xs, e1, e2, rfl⟩ := toPys_cons hp
        rw [List.all_cons, Bool.and_eq_true] at h1
        cases bs with
        | nil => cases hq; rfl
        | cons b bs =>
          rw [List.all_cons, Bool.and_eq_true] at h2
          obtain ⟨y, ys, e3, e4, rfl⟩ := toPys_cons hq
          show (PyData.eqv x y && PyData.eqvAll xs ys) = (dtEq a b && dtEqs as bs)
          rw [ih a b x y h1.1 h2.1 e1 e3, ih2 bs xs ys h1.2 h2.2 e2 e4]
    have tp : ∀ {ds : List Dt} {p : PyData}, toPy (.tup ds) = some p → ∃ ps, toPys ds = some ps ∧ p = .tuple ps := by
      intro ds p h
      have h : (toPys ds).map PyData.tuple = some p := h
      cases e : toPys ds with
      | none => rw [e] at h; cases h
      | some ps => rw [e] at h; cases h; exact ⟨ps, rfl, rfl⟩
    have ls : ∀ {ds : List Dt} {p : PyData}, toPy (.lst ds) = some p → ∃ ps, toPys ds = some ps ∧ p = .list ps := by
      intro ds p h
      have h : (toPys ds).map PyData.list = some p := h
      cases e : toPys ds with
      | none => rw [e] at h; cases h
      | some ps => rw [e] at h; cases h; exact ⟨ps, rfl, rfl⟩
    intro a b p q ha hb hp hq
    cases a <;> first | (cases ha; done) | skip
    all_goals (cases b <;> first | (cases hb; done) | skip)
    all_goals first | (obtain ⟨ps, e1, rfl⟩ := tp hp) | (obtain ⟨ps, e1, rfl⟩ := ls hp) | cases hp
    all_goals first | (obtain ⟨qs, e2, rfl⟩ := tp hq) | (obtain ⟨qs, e2, rfl⟩ := ls hq) | cases hq
    all_goals first | rfl | exact hl _ _ _ _ ha hb e1 e2 | skip
    all_goals (simp only [PyData.eqv, dtEq]; rw [Bool.eq_iff_iff]; simp)
theorem dtEqs_iff (h : ∀ a b, a ∈ ([] : List Dt) → dtEq a b = true) : True := trivial
mutual
theorem dtEq_eq : ∀ {a b : Dt}, dtEq a b = true → a = b
  | .non, .non, _ => rfl
  | .int i, .int j, h => by rw [show i = j from of_decide_eq_true h]
  | .str i, .str j, h => by rw [show i = j from of_decide_eq_true h]
  | .tup a, .tup b, h => by rw [dtEqs_eq (a := a) (b := b) h]
  | .lst a, .lst b, h => by rw [dtEqs_eq (a := a) (b := b) h]
theorem dtEqs_eq : ∀ {a b : List Dt}, dtEqs a b = true → a = b
  | [], [], _ => rfl
  | a :: as, b :: bs, h => by
    have h : (dtEq a b && dtEqs as bs) = true := h
    rw [Bool.and_eq_true] at h
    rw [dtEq_eq h.1, dtEqs_eq h.2]
end
theorem dtEq_rfl : ∀ (n : Nat) (a : Dt), okE n a = true → dtEq a a = true := by
  intro n
  induction n with
  | zero =>
    intro a h
    cases a <;> first | (cases h; done) | rfl | exact decide_eq_true rfl
  | succ n ih =>
    have hl : ∀ as : List Dt, as.all (okE n) = true → dtEqs as as = true := by
      intro as
      induction as with
      | nil => intro _; rfl
      | cons a as ih2 =>
        intro h
        rw [List.all_cons, Bool.and_eq_true] at h
        show (dtEq a a && dtEqs as as) = true
        rw [ih a h.1, ih2 h.2]; rfl
    intro a h
    cases a <;> first | (cases h; done) | rfl | exact decide_eq_true rfl | exact hl _ h
theorem okE_mono : ∀ (n : Nat) (d : Dt), okE n d = true → okE (n + 1) d = true := by
  intro n
  induction n with
  | zero => intro d h; cases d <;> first | (cases h; done) | exact h
  | succ n ih =>
    intro d h
    have hl : ∀ ds : List Dt, ds.all (okE n) = true → ds.all (okE (n + 1)) = true := fun ds h => List.all_eq_true.2 fun d hd => ih d (List.all_eq_true.1 h d hd)
    cases d <;> first | (cases h; done) | exact h | exact hl _ h
theorem okE_le {n m : Nat} (h : n ≤ m) {d : Dt} (hd : okE n d = true) : okE m d = true := by
  induction h with
  | refl => exact hd
  | step _ ih => exact okE_mono _ _ ih
theorem okE_sh {n : Nat} (hn : n ≤ 60) {d : Dt} {p : PyData} (h : okE n d = true) (hp : toPy d = some p) : SeqAt.shaped p = true := by
  obtain ⟨q, e1, e2, e3⟩ := okE_py n d h
  rw [hp] at e1
  cases e1
  simp only [SeqAt.shaped, e2, Bool.true_and]
  exact decide_eq_true (by omega)
theorem pyOf_val (st : Sta) (d : Dt) (n : Nat) (h : okE n d = true) : pyOf st (.val d) = toPy d := by
  cases d <;> first | rfl | (cases n <;> cases h)
theorem eqG_ok (st : Sta) {a b : Dt} {n : Nat} (hn : n ≤ 60) (ha : okE n a = true) (hb : okE n b = true) : eqGen st (.val a) (.val b) = some (dtEq a b) := by
  obtain ⟨p, e1, _, _⟩ := okE_py n a ha
  obtain ⟨q, e2, _, _⟩ := okE_py n b hb
  unfold eqGen
  rw [pyOf_val st a n ha, pyOf_val st b n hb, e1, e2]
  simp only [okE_sh hn ha e1, okE_sh hn hb e2, Bool.and_self, if_true]
  rw [okE_eqv n a b p q ha hb e1 e2]
theorem eqD_ok (st : Sta) {a b : Dt} {n : Nat} (hn : n ≤ 60) (ha : okE n a = true) (hb : okE n b = true) : eqD st (.val a) (.val b) = some (dtEq a b) := by
  rw [← eqG_ok st hn ha hb]
  cases a <;> first | (cases n <;> cases ha; done) | skip
  all_goals (cases b <;> first | rfl | (cases n <;> cases hb; done) | skip)
  all_goals (rw [eqG_ok st hn ha hb]; rfl)
theorem dtEq_dec {a b : Dt} {n : Nat} (ha : okE n a = true) {p : Prop} [Decidable p] (h : a = b ↔ p) : dtEq a b = decide p := by
  rw [Bool.eq_iff_iff, decide_eq_true_eq, ← h]
  exact ⟨dtEq_eq, fun e => e ▸ dtEq_rfl n a ha⟩
/-- plain data: what == says -/
theorem D_eqK {a b : Dt} {n : Nat} (hn : n ≤ 60) (ha : okE n a = true) (hb : okE n b = true) {p : Prop} [Decidable p] (h : a = b ↔ p) (st : Sta) (P : Hd → Prop) : OW (cmpD .eq st (.val a) (.val b)) P = P (.val (.bl (decide p))) := by
  show OW ((eqD st _ _).map _) P = _
  rw [eqD_ok st hn ha hb, dtEq_dec ha h]; rfl
theorem D_neK {a b : Dt} {n : Nat} (hn : n ≤ 60) (ha : okE n a = true) (hb : okE n b = true) {p : Prop} [Decidable p] (h : a = b ↔ p) (st : Sta) (P : Hd → Prop) : OW (cmpD .ne st (.val a) (.val b)) P = P (.val (.bl (!decide p))) := by
  show OW ((eqD st _ _).map _) P = _
  rw [eqD_ok st hn ha hb, dtEq_dec ha h]; rfl
/-! lists that stand somewhere are compared as values -/
theorem pyOf_seq {st st' : Sta} {x y : Hd} {p : Bool × List Dt} (h1 : seqOf st x = some p) (h2 : seqOf st' y = some p) : pyOf st x = pyOf st' y := by
  unfold pyOf
  rw [h1, h2]
  obtain ⟨b, ds⟩ := p
  cases b <;> rfl
section
variable (env : List Sl) (T : List Ob) (ro : Bool) (st : Sta) (P : Hd → Prop) (y : Hd) (ds : List Dt) (n : Nat)
theorem eqG_l {st : Sta} {x x' y : Hd} (h : pyOf st x = pyOf st x') : eqGen st x y = eqGen st x' y := by unfold eqGen; rw [h]
theorem eqG_r {st : Sta} {x y y' : Hd} (h : pyOf st y = pyOf st y') : eqGen st x y = eqGen st x y' := by unfold eqGen; rw [h]
theorem eqD_lst (st : Sta) (ds : List Dt) (y : Hd) : eqD st (.val (.lst ds)) y = eqGen st (.val (.lst ds)) y := by
  cases y with
  | val d => cases d <;> rfl
  | _ => rfl
theorem eqD_lstR (st : Sta) (ds : List Dt) (x : Hd) : eqD st x (.val (.lst ds)) = eqGen st x (.val (.lst ds)) := by
  cases x with
  | val d => cases d <;> rfl
  | _ => rfl
theorem eqD_own (st : Sta) (y : Hd) : eqD st (.own n) y = eqGen st (.own n) y := rfl
theorem eqD_ownR (st : Sta) (x : Hd) : eqD st x (.own n) = eqGen st x (.own n) := by
  cases x with
  | val d => cases d <;> rfl
  | _ => rfl
theorem eqD_box (st : Sta) (y : Hd) : eqD st (.val (.box n)) y = eqGen st (.val (.box n)) y := by
  cases y with
  | val d => cases d <;> rfl
  | _ => rfl
theorem eqD_boxR (st : Sta) (x : Hd) : eqD st x (.val (.box n)) = eqGen st x (.val (.box n)) := by
  cases x with
  | val d => cases d <;> rfl
  | _ => rfl
theorem K_eqn : OW (cmpD .eq st (.new ds) y) P = OW (cmpD .eq st (.val (.lst ds)) y) P := by
  show OW ((eqD st _ _).map _) P = OW ((eqD st _ _).map _) P
  rw [eqD_lst]; rfl
theorem K_nen : OW (cmpD .ne st (.new ds) y) P = OW (cmpD .ne st (.val (.lst ds)) y) P := by
  show OW ((eqD st _ _).map _) P = OW ((eqD st _ _).map _) P
  rw [eqD_lst]; rfl
theorem K_eqnR (x : Hd) : OW (cmpD .eq st x (.new ds)) P = OW (cmpD .eq st x (.val (.lst ds))) P := by
  show OW ((eqD st _ _).map _) P = OW ((eqD st _ _).map _) P
  rw [eqD_lstR]
  cases x with
  | val d => cases d <;> rfl
  | _ => rfl
theorem K_nenR (x : Hd) : OW (cmpD .ne st x (.new ds)) P = OW (cmpD .ne st x (.val (.lst ds))) P := by
  show OW ((eqD st _ _).map _) P = OW ((eqD st _ _).map _) P
  rw [eqD_lstR]
  cases x with
  | val d => cases d <;> rfl
  | _ => rfl
theorem own_py (P : List Dt → Prop) (Q : Prop) (h1 : ∀ ds, env[n]? = some (.own ds) → (Q ↔ P ds)) (h2 : pyOf ⟨env, T, ro⟩ (.own n) = none → ¬ Q) : Q = OnW env[n]? P := by
  cases e : env[n]? with
  | none => exact propext ⟨fun q => (h2 (by unfold pyOf seqOf; simp only [e]) q).elim, fun h => h.elim⟩
  | some sl =>
    cases sl with
    | own ds => exact propext (h1 ds e)
    | _ => exact propext ⟨fun q => (h2 (by unfold pyOf seqOf; simp only [e]) q).elim, fun h => h.elim⟩
theorem box_py (P : List Dt → Prop) (Q : Prop) (h1 : ∀ ds, T[n]? = some (.lst ds) → (Q ↔ P ds)) (h2 : pyOf ⟨env, T, ro⟩ (.val (.box n)) = none → ¬ Q) : Q = BW T[n]? P := by
  cases e : T[n]? with
  | none => exact propext ⟨fun q => (h2 (by unfold pyOf seqOf; simp only [e]; rfl) q).elim, fun h => h.elim⟩
  | some sl =>
    cases sl with
    | lst ds => exact propext (h1 ds e)
    | _ => exact propext ⟨fun q => (h2 (by unfold pyOf seqOf; simp only [e]; rfl) q).elim, fun h => h.elim⟩
theorem eqG_nl {st : Sta} {x y : Hd} (h : pyOf st x = none) : eqGen st x y = none := by unfold eqGen; rw [h]
theorem eqG_nr {st : Sta} {x y : Hd} (h : pyOf st y = none) : eqGen st x y = none := by
  unfold eqGen; rw [h]
  cases pyOf st x <;> rfl
theorem own_e {ds : List Dt} (e : env[n]? = some (.own ds)) : pyOf ⟨env, T, ro⟩ (.own n) = pyOf ⟨env, T, ro⟩ (.val (.lst ds)) := pyOf_seq (p := (true, ds)) (by unfold seqOf; simp only [e]) rfl
theorem box_e {ds : List Dt} (e : T[n]? = some (.lst ds)) : pyOf ⟨env, T, ro⟩ (.val (.box n)) = pyOf ⟨env, T, ro⟩ (.val (.lst ds)) := pyOf_seq (p := (true, ds)) (by unfold seqOf; simp only [e]) rfl
theorem K_eqo : OW (cmpD .eq ⟨env, T, ro⟩ (.own n) y) P = OnW env[n]? (fun ds => OW (cmpD .eq ⟨env, T, ro⟩ (.val (.lst ds)) y) P) := by
  refine own_py env T ro n _ _ (fun ds e => ?_) (fun z q => ?_)
  · show OW ((eqD _ _ _).map _) P ↔ OW ((eqD _ _ _).map _) P
    rw [eqD_lst, eqD_own, eqG_l (own_e env T ro n e)]
  · have q : OW ((eqD _ _ _).map _) P := q
    rw [eqD_own, eqG_nl z] at q; exact q
theorem K_neo : OW (cmpD .ne ⟨env, T, ro⟩ (.own n) y) P = OnW env[n]? (fun ds => OW (cmpD .ne ⟨env, T, ro⟩ (.val (.lst ds)) y) P) := by
  refine own_py env T ro n _ _ (fun ds e => ?_) (fun z q => ?_)
  · show OW ((eqD _ _ _).map _) P ↔ OW ((eqD _ _ _).map _) P
    rw [eqD_lst, eqD_own, eqG_l (own_e env T ro n e)]
  · have q : OW ((eqD _ _ _).map _) P := q
    rw [eqD_own, eqG_nl z] at q; exact q
theorem K_eqoR (x : Hd) : OW (cmpD .eq ⟨env, T, ro⟩ x (.own n)) P = OnW env[n]? (fun ds => OW (cmpD .eq ⟨env, T, ro⟩ x (.val (.lst ds))) P) := by
  refine own_py env T ro n _ _ (fun ds e => ?_) (fun z q => ?_)
  · show OW ((eqD _ _ _).map _) P ↔ OW ((eqD _ _ _).map _) P
    rw [eqD_lstR, eqD_ownR, eqG_r (own_e env T ro n e)]
  · have q : OW ((eqD _ _ _).map _) P := q
    rw [eqD_ownR, eqG_nr z] at q; exact q
theorem K_neoR (x : Hd) : OW (cmpD .ne ⟨env, T, ro⟩ x (.own n)) P = OnW env[n]? (fun ds => OW (cmpD .ne ⟨env, T, ro⟩ x (.val (.lst ds))) P) := by
  refine own_py env T ro n _ _ (fun ds e => ?_) (fun z q => ?_)
  · show OW ((eqD _ _ _).map _) P ↔ OW ((eqD _ _ _).map _) P
    rw [eqD_lstR, eqD_ownR, eqG_r (own_e env T ro n e)]
  · have q : OW ((eqD _ _ _).map _) P := q
    rw [eqD_ownR, eqG_nr z] at q; exact q
theorem K_eqb : OW (cmpD .eq ⟨env, T, ro⟩ (.val (.box n)) y) P = BW T[n]? (fun ds => OW (cmpD .eq ⟨env, T, ro⟩ (.val (.lst ds)) y) P) := by
  refine box_py env T ro n _ _ (fun ds e => ?_) (fun z q => ?_)
  · show OW ((eqD _ _ _).map _) P ↔ OW ((eqD _ _ _).map _) P
    rw [eqD_lst, eqD_box, eqG_l (box_e env T ro n e)]
  · have q : OW ((eqD _ _ _).map _) P := q
    rw [eqD_box, eqG_nl z] at q; exact q
theorem K_neb : OW (cmpD .ne ⟨env, T, ro⟩ (.val (.box n)) y) P = BW T[n]? (fun ds => OW (cmpD .ne ⟨env, T, ro⟩ (.val (.lst ds)) y) P) := by
  refine box_py env T ro n _ _ (fun ds e => ?_) (fun z q => ?_)
  · show OW ((eqD _ _ _).map _) P ↔ OW ((eqD _ _ _).map _) P
    rw [eqD_lst, eqD_box, eqG_l (box_e env T ro n e)]
  · have q : OW ((eqD _ _ _).map _) P := q
    rw [eqD_box, eqG_nl z] at q; exact q
theorem K_eqbR (x : Hd) : OW (cmpD .eq ⟨env, T, ro⟩ x (.val (.box n))) P = BW T[n]? (fun ds => OW (cmpD .eq ⟨env, T, ro⟩ x (.val (.lst ds))) P) := by
  refine box_py env T ro n _ _ (fun ds e => ?_) (fun z q => ?_)
  · show OW ((eqD _ _ _).map _) P ↔ OW ((eqD _ _ _).map _) P
    rw [eqD_lstR, eqD_boxR, eqG_r (box_e env T ro n e)]
  · have q : OW ((eqD _ _ _).map _) P := q
    rw [eqD_boxR, eqG_nr z] at q; exact q
theorem K_nebR (x : Hd) : OW (cmpD .ne ⟨env, T, ro⟩ x (.val (.box n))) P = BW T[n]? (fun ds => OW (cmpD .ne ⟨env, T, ro⟩ x (.val (.lst ds))) P) := by
  refine box_py env T ro n _ _ (fun ds e => ?_) (fun z q => ?_)
  · show OW ((eqD _ _ _).map _) P ↔ OW ((eqD _ _ _).map _) P
    rw [eqD_lstR, eqD_boxR, eqG_r (box_e env T ro n e)]
  · have q : OW ((eqD _ _ _).map _) P := q
    rw [eqD_boxR, eqG_nr z] at q; exact q
/-! some further rules -/
theorem D_appB (P : Sta → Prop) (d : Dt) : OW (appD ⟨env, T, false⟩ (.val (.box n)) d) P = BW T[n]? (fun ds => ds.length < sizeLine ∧ P ⟨env, T.set n (.lst (ds ++ [d])), false⟩) := by
  simp only [appD]
  show OW (match T[n]? with | some (.lst ds) => _ | _ => none) P = _
  generalize T[n]? = o
  match o with
  | some (.lst ds) => exact OW_ite _ _ _
  | none | some (.dct _) | some (.ins _ _) | some .dead => rfl
def BB (o : Option Ob) : Bool := match o with
  | some (.lst _) => true
  | _ => false
theorem BB_s (ds) : BB (some (.lst ds)) = true := rfl
theorem D_lofB : (lstOf ⟨env, T, ro⟩ (.val (.box n))).isSome = BB T[n]? := by
  simp only [lstOf, seqOf]
  generalize T[n]? = o
  match o with
  | none | some (.lst _) | some (.dct _) | some (.ins _ _) | some .dead => rfl
def IlW (o : Option Sl) (P : Bool → Prop) (t : Tok P) : Prop := match o with
  | some (.own _) => P true
  | some (.ownd _) => P false
  | _ => False
theorem IlW_o (ds) (P : Bool → Prop) (t) : IlW (some (.own ds)) P t = P true := rfl
theorem D_ilo : OW (isiD .list ⟨env, T, ro⟩ (.own n)) P = IlW env[n]? (fun b => P (.val (.bl b))) ⟨⟩ := by
  show OW ((tyOf ⟨env, T, ro⟩ (.own n)).bind _) P = _
  show OW ((match env[n]? with | some (.own _) => some "list" | some (.ownd _) => some "dict" | _ => none).bind _) P = _
  generalize env[n]? = o
  match o with
  | none | some .none | some (.val _) | some (.own _) | some (.ownd _) | some (.exn _) => rfl
theorem D_iln : OW (isiD .list st (.new ds)) P = P (.val (.bl true)) := rfl
theorem D_ilb : OW (isiD .list ⟨env, T, ro⟩ (.val (.box n))) P = BW T[n]? (fun _ => P (.val (.bl true))) ∨ ∃ k, T[n]? = some (.dct k) := by
  cases e : T[n]? with
  | none => left; show OW ((tyOf ⟨env, T, ro⟩ (.val (.box n))).bind _) P = _; simp only [tyOf, e]; rfl
  | some o =>
    cases o with
    | dct k => right; exact ⟨k, rfl⟩
    | _ => left; show OW ((tyOf ⟨env, T, ro⟩ (.val (.box n))).bind _) P = _; simp only [tyOf, e]; rfl
theorem D_ti : OW (isiD .tuple st (.val (.int i))) P = P (.val (.bl false)) := rfl
end
theorem D_eqCs (st : Sta) (P : Hd → Prop) (as bs : List Cl) : OW (cmpD .eq st (.val (.lst (clsD as))) (.val (.lst (clsD bs)))) P = P (.val (.bl (decide (as = bs)))) := by
  show OW ((eqD st _ _).map _) P = _
  rw [eqD_lst, cls_eqG (as := as) (bs := bs) rfl rfl]; rfl
theorem D_neCs (st : Sta) (P : Hd → Prop) (as bs : List Cl) : OW (cmpD .ne st (.val (.lst (clsD as))) (.val (.lst (clsD bs)))) P = P (.val (.bl (!decide (as = bs)))) := by
  show OW ((eqD st _ _).map _) P = _
  rw [eqD_lst, cls_eqG (as := as) (bs := bs) rfl rfl]; rfl
theorem D_eqC0 (st : Sta) (P : Hd → Prop) (as : List Cl) : OW (cmpD .eq st (.val (.lst (clsD as))) (.val (.lst []))) P = P (.val (.bl (decide (as = [])))) := D_eqCs st P as []
theorem D_neC0 (st : Sta) (P : Hd → Prop) (as : List Cl) : OW (cmpD .ne st (.val (.lst (clsD as))) (.val (.lst []))) P = P (.val (.bl (!decide (as = [])))) := D_neCs st P as []
theorem legal_len (b cs : List Cl) : (legalN b cs).length ≤ b.length + 3 := by
  have h : (dblN cs).length ≤ 2 := by
    unfold dblN
    split
    · rename_i k e
      split
      · rw [List.length_append]
        have h1 : ∀ (p : Prop) [Decidable p] (c : Cl), (if p then [c] else []).length ≤ 1 := fun p _ c => by split <;> simp
        have h2 := h1 ((cs.getD k Cl.pass).isBid = true) .dbl
        have h3 := h1 (cs.getD k Cl.pass = .dbl) .rdb
        omega
      · simp
    · simp
  unfold legalN
  split
  · simp
  · rw [List.length_append, List.length_cons, List.length_drop]
    omega
theorem legal_nil (b cs : List Cl) : legalN b cs = [] ↔ auOver cs = true := by
  unfold legalN
  cases auOver cs with
  | true => simp
  | false => simp
/-- a legal call goes on -/
theorem legal_next {b cs : List Cl} (hb : ∀ c ∈ b, c.isBid = true) (hB : Bds b cs) (ht : trail cs ≤ 4) {c : Cl} (h : c ∈ legalN b cs) : Bds b (cs ++ [c]) ∧ trail (cs ++ [c]) ≤ 4 := by
  have ho : auOver cs = false := by
    cases q : auOver cs with
    | false => rfl
    | true => unfold legalN at h; rw [if_pos q] at h; cases h
  have hd := ho
  rw [done_over cs ht] at hd
  unfold doneN at hd
  rw [Bool.or_eq_false_iff] at hd
  have h4 : ¬ trail cs = 4 := of_decide_eq_false hd.1
  refine ⟨fun x hx hbx => ?_, ?_⟩
  · rcases List.mem_append.1 hx with hx | hx
    · exact hB x hx hbx
    · rw [List.mem_singleton] at hx
      subst hx
      unfold legalN at h
      rw [if_neg (by rw [ho]; exact Bool.false_ne_true)] at h
      rcases List.mem_cons.1 h with e | h
      · rw [e] at hbx; cases hbx
      · rcases List.mem_append.1 h with h | h
        · unfold dblN at h
          split at h
          · split at h
            · rcases List.mem_append.1 h with h | h
              · split at h
                · rw [List.mem_singleton] at h; rw [h] at hbx; cases hbx
                · cases h
              · split at h
                · rw [List.mem_singleton] at h; rw [h] at hbx; cases hbx
                · cases h
            · cases h
          · cases h
        · exact List.mem_of_mem_drop h
  · rw [trail_snoc]
    split <;> omega
theorem bidN_bid (q z : Nat) : ∀ c ∈ bidN q z, c.isBid = true := by
  intro c hc
  obtain ⟨l, _, h⟩ := List.mem_flatMap.1 hc
  obtain ⟨s, _, rfl⟩ := List.mem_map.1 h
  rfl
/-- bool, int of the laws -/
def bBool : Ss :=
  (.cons (.ret (.and (.isi (.var 0) .bool) (.cmp .eq (.var 0) (.var 1))))
  .nil)
theorem bool_run {p : Prg} {f : Nat} (hf : p.fn f = ⟨2, bBool⟩) (ha : p.ar f = 2) {k : Nat} (hk : 0 < k) (a b : Bool) (ro : Bool) (T : List Ob) : run p k f ro [.bl a, .bl b] T = .ok (.val (.bl (decide (a = b)))) T := by
  refine WC_eq (WC_run (by rw [ha]; rfl) hf hk ?_)
  simp -implicitDefEqProofs -dsimp (disch := omega) only [bBool, List.map, List.length, List.replicate, List.cons_append, List.nil_append, ↓W_dt, ↓W_fld, ↓W_meth, ↓W_make, ↓MkW_n, ↓W_popl, ↓W_setf, ↓W_augx, ↓W_asgM, ↓Gam_ncl, ↓EnW_l, ↓EnW_s, ↓EnW_n, ↓EnW_f, ↓EnW_b, ↓LG_rng, ↓LG_seq, ↓LG_enum, ↓LG_zip, ↓LG_str, ↓LG_seqR, ↓LG_enumR, ↓I3W_f, ↓I3W_b, ↓InW_s, ↓FdW_v, ↓FdW_o, ↓FdW_d, ↓InB_s, ↓D_fld, ↓D_meth, ↓D_setf, ↓SO_v, ↓SO_n, ↓SO_nf, ↓SO_d, ↓sq_f, ↓live_f, ↓live_b, ↓D_lenF, ↓D_ixF, ↓D_appF, ↓D_setF, ↓D_poplF, ↓D_lofF, ↓tp0, ↓tpS, ↓bh_f, ↓CG_rng, ↓CG_seq, ↓CG_enum, ↓CG_zip, ↓CG_str, ↓CG_seqR, ↓CG_enumR, ↓W_var, ↓W_cst, ↓W_glob, ↓W_bin, ↓W_cmp, ↓W_ix, ↓W_un, ↓W_blt, ↓W_blt2, ↓W_isi, ↓W_bits, ↓W_idx, ↓W_find, ↓W_pop, ↓W_dnew, ↓W_dix, ↓W_din, ↓W_sset, ↓D_sset, ↓W_lrg1, ↓W_lrg2, ↓W_dput, ↓StW_s, ↓ViW_i, ↓VaW_v, ↓SlW_d, ↓bh_nd, ↓OdW_s, ↓LnW_o, ↓LnW_d, ↓D_pop, ↓D_dixI, ↓D_dixS, ↓D_dinI, ↓D_dinS, ↓D_dputI, ↓D_dputS, ↓D_find, ↓D_lrg, ↓W_enum, ↓W_zip, ↓W_istr, ↓lstP_l, ↓lstP_s, ↓lstP_n, ↓lstQ_l, ↓W_revl, ↓W_revs, ↓W_sl, ↓W_bind, ↓W_partT, ↓W_partF, ↓PaW_i, ↓D_list, ↓D_tuple, ↓D_sum, ↓D_sorted, ↓D_maxl, ↓D_minl, ↓D_str, ↓D_bits, ↓D_revS, ↓D_revL, ↓D_revN, ↓seq_t, ↓seq_l, ↓seq_s, ↓seq_n, ↓seq_b, ↓seq_o, ↓ints_n, ↓ints_l, ↓inta_n, ↓inta_l, ↓inta_t, ↓W_exi, ↓W_chain, ↓W_not, ↓W_and, ↓W_or, ↓W_ife, ↓W_tup, ↓W_lst, ↓W_call, ↓W_frz, ↓W_mkbox, ↓W_app, ↓W_enil, ↓W_econs, ↓W_rng1, ↓W_rng2, ↓W_seq, ↓W_asg, ↓W_asgO, ↓W_asgT, ↓W_aug, ↓W_setix, ↓W_expr, ↓W_ret, ↓W_retN, ↓W_pass, ↓W_brk, ↓W_cont, ↓W_raise, ↓W_if, ↓W_for, ↓W_nil, ↓W_cons, ↓W_try, ↓W_ok, ↓W_exc, ↓WC_ok, ↓WC_exc, ↓WK_ok, ↓WK_exc, ↓TW_b, ↓DW_v, ↓DW_n, ↓IT_t, ↓IT_f, ↓IT_dt, ↓IT_df, IT_d, ↓IT_e1, ↓IT_e2, ↓IT_e3, ↓IT_e4, ↓IT_n, ↓IT_a, ↓SlW_v, ↓SlW_o, ↓OW_s, ↓FW_nx, ↓FW_rt, ↓FW_bk, ↓FW_ct, ↓RW_v, ↓RW_n, ↓RW_o, ↓bh_v, ↓bh_n, ↓bh_o, ↓Gam_glob, ↓D_add, ↓D_sub, ↓D_mul, ↓D_fdiv, ↓D_mod, ↓D_band, ↓D_bor, ↓D_bxor, ↓D_shl, ↓D_shr, ↓D_lt, ↓D_le, ↓D_gt, ↓D_ge, ↓D_eqi, ↓D_nei, ↓D_eqb, ↓D_eqll, ↓D_nell, ↓D_eqnn, ↓D_nenn, ↓D_eqnl, ↓D_nenl, ↓D_eqln, ↓D_neln, ↓D_eqtt, ↓D_nett, ↓D_ill, ↓D_itt, ↓D_neb, ↓D_isN, ↓D_inN, ↓D_isi1, ↓D_ini1, ↓D_ist1, ↓D_int1, ↓D_isl1, ↓D_inl1, ↓D_isn1, ↓D_inn1, ↓D_isb1, ↓D_inb1, ↓D_neg, ↓D_abs, ↓D_int, ↓D_intb, ↓D_lenT, ↓D_lenL, ↓D_lenS, ↓D_lenN, ↓D_lenB, ↓D_lenO, ↓D_max, ↓D_min, ↓D_ixT, ↓D_ixL, ↓D_ixS, ↓D_ixN, ↓D_ixB, ↓D_ixO, ↓D_setB, ↓D_setO, ↓D_appO, ↓D_lof, ↓D_catNN, ↓D_catNL, ↓D_catLN, ↓D_catLL, ↓D_ii, ↓D_ib, ↓D_bi, ↓D_bb, ↓BW_s, ↓OnW_s, ↓OnB_s, ↓VW_rv, ↓VW_rn, ↓VW_nx, ↓RV_rv, ↓at0, ↓at1, ↓at2, ↓at3, ↓Au_add, ↓Au_sub, ↓Au_bor, ↓Au_mul, ↓sT0, ↓sTS, ↓I1W_i, ↓I2W_i, ↓I3W_l, ↓I3W_s, ↓I3W_t, ↓I3W_n, ↓stepQ_nx, ↓stepQ_ct, ↓stepQ_bk, ↓stepQ_rt, ↓sE, ↓eg0, ↓egS, ↓st0, ↓stS, ↓true_and, ↓and_true, ↓eq_self, ↓isF_v, ↓isF_n, ↓decide_true, ↓decide_false, ↓Bool.not_true, ↓Bool.not_false, List.set_cons_zero, List.set_cons_succ]
end EV
namespace Law
open PySem PySem.Spec PyProof.Rows L2 EV
def top (i : Nat) : Stmt := PySem.Challenge.pw_finesse_k13_legal_calls.main.body.getD i (.Pass ⟨0, 0, 0, 0⟩)
def inCls (s : Stmt) (j : Nat) : Stmt := match s with
  | .ClassDef _ _ _ b _ _ _ _ _ _ _ => b.getD j (.Pass ⟨0, 0, 0, 0⟩)
  | _ => .Pass ⟨0, 0, 0, 0⟩
/- _wall (0 k) -/
def b__wall_L3 : Ss :=
  (.cons .pass
  .nil)
def b__wall : Ss :=
  (.cons (.whl (.cst (.bl true)) b__wall_L3)
  .nil)
def d__wall : PDef := ⟨⟨("_wall", none), "_wall", "_wall", defArgs (top 0), defBody (top 0), defScope (top 0), [], []⟩, ["k"], ["k"], ⟨1, b__wall⟩, rfl, rfl, fun _ _ _ _ _ _ us hl => match us, hl with | [_], _ => rfl⟩
/- side_of (0 player) -/
def b_side_of : Ss :=
  (.cons (.ret (.bin .mod (.var 0) (.cst (.int 2))))
  .nil)
def d_side_of : PDef := ⟨⟨("side_of", none), "side_of", "side_of", defArgs (top 6), defBody (top 6), defScope (top 6), [], []⟩, ["player"], ["player"], ⟨1, b_side_of⟩, rfl, rfl, fun _ _ _ _ _ _ us hl => match us, hl with | [_], _ => rfl⟩
/- bids_of (0 suits, 1 size, 2 top, 3 level, 4 strain) -/
def b_bids_of : Ss :=
  (.cons (.asg (.name 2) false (.bin .sub (.var 1) (.bin .fdiv (.var 1) (.cst (.int 2)))))
  (.cons (.ret (.comp2 (.tup (.cons (.cst (.str "bid")) (.cons (.var 3) (.cons (.var 4) .nil)))) (.rng2 (.cst (.int 1)) (.bin .add (.var 2) (.cst (.int 1)))) (.name 3) (.rng1 (.bin .add (.var 0) (.cst (.int 1)))) (.name 4) [3, 4] [4]))
  .nil))
def d_bids_of : PDef := ⟨⟨("bids_of", none), "bids_of", "bids_of", defArgs (top 11), defBody (top 11), defScope (top 11), [], []⟩, ["suits", "size"], ["suits", "size", "top", "level", "strain"], ⟨5, b_bids_of⟩, rfl, rfl, fun _ _ _ _ _ _ us hl => match us, hl with | [_, _], _ => rfl⟩
/- _law_is_integer (0 _law_actual) -/
def b__law_is_integer : Ss :=
  (.cons (.ret (.and (.isi (.var 0) .int) (.not (.isi (.var 0) .bool))))
  .nil)
def d__law_is_integer : PDef := ⟨⟨("_law_is_integer", none), "_law_is_integer", "_law_is_integer", defArgs (top 14), defBody (top 14), defScope (top 14), [], []⟩, ["_law_actual"], ["_law_actual"], ⟨1, b__law_is_integer⟩, rfl, rfl, fun _ _ _ _ _ _ us hl => match us, hl with | [_], _ => rfl⟩
/- _law_numbers (0 _law_script, 1 _law_first, 2 _law_most, 3 _law_found, 4 _law_at, 5 _law_cell, 6 _law_k, 7 _law_mixed) -/
def b__law_numbers_L88 : Ss :=
  (.cons (.ret (.var 3))
  .nil)
def b__law_numbers_L82 : Ss :=
  (.cons (.expr (.app (.var 3) (.bin .mod (.blt .int (.var 5)) (.cst (.int 4096)))))
  (.cons (.asg (.name 5) false (.bin .fdiv (.var 5) (.cst (.int 4096))))
  .nil))
def b__law_numbers_L81 : Ss :=
  (.cons (.iff (.and (.cmp .gt (.var 5) (.cst (.int 0))) (.cmp .lt (.blt .len (.var 3)) (.var 2))) b__law_numbers_L82 .nil)
  .nil)
def b__law_numbers_L80 : Ss :=
  (.cons (.for_ (.name 6) (.rng1 (.cst (.int 60))) b__law_numbers_L81)
  .nil)
def b__law_numbers_L85 : Ss :=
  (.cons (.asg (.name 7) false (.bin .mod (.blt .int (.bin .add (.bin .add (.bin .mul (.var 5) (.cst (.int 48271))) (.bin .mul (.var 4) (.cst (.int 69621)))) (.cst (.int 12345)))) (.cst (.int 2147483647))))
  (.cons (.asg (.name 7) false (.bin .mod (.blt .int (.bin .add (.bin .mul (.var 7) (.cst (.int 69621))) (.bin .fdiv (.var 7) (.cst (.int 1009))))) (.cst (.int 1000003))))
  (.cons (.expr (.app (.var 3) (.bin .mod (.blt .int (.var 7)) (.cst (.int 4096)))))
  .nil)))
def b__law_numbers_L84 : Ss :=
  (.cons (.iff (.cmp .lt (.blt .len (.var 3)) (.var 2)) b__law_numbers_L85 .nil)
  .nil)
def b__law_numbers_L78 : Ss :=
  (.cons (.asg (.name 5) false (.blt .abs (.ix (.var 0) (.var 4))))
  (.cons (.iff (.cmp .ge (.var 5) (.cst (.int 1000000000000000000))) b__law_numbers_L80 b__law_numbers_L84)
  .nil))
def b__law_numbers : Ss :=
  (.cons (.asg (.name 3) true (.lst .nil))
  (.cons (.for_ (.name 4) (.rng2 (.var 1) (.blt .len (.var 0))) b__law_numbers_L78)
  b__law_numbers_L88))
def d__law_numbers : PDef := ⟨⟨("_law_numbers", none), "_law_numbers", "_law_numbers", defArgs (top 15), defBody (top 15), defScope (top 15), [], []⟩, ["_law_script", "_law_first", "_law_most"], ["_law_script", "_law_first", "_law_most", "_law_found", "_law_at", "_law_cell", "_law_k", "_law_mixed"], ⟨8, b__law_numbers⟩, rfl, rfl, fun _ _ _ _ _ _ us hl => match us, hl with | [_, _, _], _ => rfl⟩
/- _law_pool (0 _law_script) -/
def b__law_pool : Ss :=
  (.cons (.ret (.mkbox (.lst (.cons (.bin .add (.call 4 (.cons (.var 0) (.cons (.cst (.int 0)) (.cons (.cst (.int 240)) .nil)))) (.lst (.cons (.cst (.int 5)) .nil))) (.cons (.cst (.int 0)) .nil)))))
  .nil)
def d__law_pool : PDef := ⟨⟨("_law_pool", none), "_law_pool", "_law_pool", defArgs (top 16), defBody (top 16), defScope (top 16), [], []⟩, ["_law_script"], ["_law_script"], ⟨1, b__law_pool⟩, rfl, rfl, fun _ _ _ _ _ _ us hl => match us, hl with | [_], _ => rfl⟩
/- _law_pick (0 _law_pool_here, 1 _law_many, 2 _law_at, 3 _law_turn) -/
def b__law_pick : Ss :=
  (.cons (.asg (.name 2) false (.ix (.var 0) (.cst (.int 1))))
  (.cons (.setix (.var 0) (.cst (.int 1)) (.bin .add (.var 2) (.cst (.int 1))))
  (.cons (.asg (.name 3) false (.bin .fdiv (.var 2) (.blt .len (.ix (.var 0) (.cst (.int 0))))))
  (.cons (.ret (.bin .mod (.blt .int (.bin .add (.bin .add (.ix (.ix (.var 0) (.cst (.int 0))) (.bin .mod (.blt .int (.var 2)) (.blt .len (.ix (.var 0) (.cst (.int 0)))))) (.bin .mul (.var 3) (.cst (.int 1009)))) (.bin .mul (.var 3) (.var 2)))) (.var 1)))
  .nil))))
def d__law_pick : PDef := ⟨⟨("_law_pick", none), "_law_pick", "_law_pick", defArgs (top 17), defBody (top 17), defScope (top 17), [], []⟩, ["_law_pool_here", "_law_many"], ["_law_pool_here", "_law_many", "_law_at", "_law_turn"], ⟨4, b__law_pick⟩, rfl, rfl, fun _ _ _ _ _ _ us hl => match us, hl with | [_, _], _ => rfl⟩
/- _law_bool (0 _law_actual, 1 _law_due) -/
def b__law_bool : Ss :=
  (.cons (.ret (.and (.isi (.var 0) .bool) (.cmp .eq (.var 0) (.var 1))))
  .nil)
def d__law_bool : PDef := ⟨⟨("_law_bool", none), "_law_bool", "_law_bool", defArgs (top 18), defBody (top 18), defScope (top 18), [], []⟩, ["_law_actual", "_law_due"], ["_law_actual", "_law_due"], ⟨2, b__law_bool⟩, rfl, rfl, fun _ _ _ _ _ _ us hl => match us, hl with | [_, _], _ => rfl⟩
/- _law_int (0 _law_actual, 1 _law_due) -/
def b__law_int : Ss :=
  (.cons (.ret (.and (.call 3 (.cons (.var 0) .nil)) (.cmp .eq (.var 0) (.var 1))))
  .nil)
def d__law_int : PDef := ⟨⟨("_law_int", none), "_law_int", "_law_int", defArgs (top 19), defBody (top 19), defScope (top 19), [], []⟩, ["_law_actual", "_law_due"], ["_law_actual", "_law_due"], ⟨2, b__law_int⟩, rfl, rfl, fun _ _ _ _ _ _ us hl => match us, hl with | [_, _], _ => rfl⟩
/- _law_bids (0 _law_suits, 1 _law_size, 2 _law_found, 3 _law_level, 4 _law_strain) -/
def b__law_bids_L104 : Ss :=
  (.cons (.ret (.var 2))
  .nil)
def b__law_bids_L103 : Ss :=
  (.cons (.asg (.name 2) false (.bin .add (.var 2) (.comp (.tup (.cons (.cst (.str "bid")) (.cons (.var 3) (.cons (.var 4) .nil)))) (.rng1 (.bin .add (.var 0) (.cst (.int 1)))) (.name 4) (.cst (.bl true)) [4])))
  .nil)
def b__law_bids : Ss :=
  (.cons (.asg (.name 2) false (.lst .nil))
  (.cons (.for_ (.name 3) (.rng2 (.cst (.int 1)) (.bin .add (.bin .sub (.var 1) (.bin .fdiv (.var 1) (.cst (.int 2)))) (.cst (.int 1)))) b__law_bids_L103)
  b__law_bids_L104))
def d__law_bids : PDef := ⟨⟨("_law_bids", none), "_law_bids", "_law_bids", defArgs (top 20), defBody (top 20), defScope (top 20), [], []⟩, ["_law_suits", "_law_size"], ["_law_suits", "_law_size", "_law_found", "_law_level", "_law_strain"], ⟨5, b__law_bids⟩, rfl, rfl, fun _ _ _ _ _ _ us hl => match us, hl with | [_, _], _ => rfl⟩
/- _law_is_done (0 _law_calls, 1 _law_passes, 2 _law_call) -/
def b__law_is_done_L109 : Ss :=
  (.cons (.ret (.or (.cmp .eq (.var 1) (.cst (.int 4))) (.and (.cmp .eq (.var 1) (.cst (.int 3))) (.cmp .gt (.blt .len (.var 0)) (.cst (.int 3))))))
  .nil)
def b__law_is_done_L108 : Ss :=
  (.cons (.asg (.name 1) false (.ix (.lst (.cons (.cst (.int 0)) (.cons (.bin .add (.var 1) (.cst (.int 1))) .nil))) (.blt .int (.cmp .eq (.var 2) (.tup (.cons (.cst (.str "pass")) .nil))))))
  .nil)
def b__law_is_done : Ss :=
  (.cons (.asg (.name 1) false (.cst (.int 0)))
  (.cons (.for_ (.name 2) (.seq (.var 0)) b__law_is_done_L108)
  b__law_is_done_L109))
def d__law_is_done : PDef := ⟨⟨("_law_is_done", none), "_law_is_done", "_law_is_done", defArgs (top 21), defBody (top 21), defScope (top 21), [], []⟩, ["_law_calls"], ["_law_calls", "_law_passes", "_law_call"], ⟨3, b__law_is_done⟩, rfl, rfl, fun _ _ _ _ _ _ us hl => match us, hl with | [_], _ => rfl⟩
/- _law_legal_calls (0 _law_suits, 1 _law_size, 2 _law_calls, 3 _law_found, 4 _law_places, 5 _law_k, 6 _law_bids_here, 7 _law_low, 8 _law_call) -/
def b__law_legal_calls_L125 : Ss :=
  (.cons (.ret (.bin .add (.var 3) (.sl (.var 6) true (.var 7) false (.cst .non))))
  .nil)
def b__law_legal_calls_L124 : Ss :=
  (.cons (.expr (.app (.var 3) (.tup (.cons (.cst (.str "redouble")) .nil))))
  .nil)
def b__law_legal_calls_L123 : Ss :=
  (.cons (.iff (.cmp .eq (.ix (.var 2) (.ix (.var 4) (.un .neg (.cst (.int 1))))) (.tup (.cons (.cst (.str "double")) .nil))) b__law_legal_calls_L124 .nil)
  .nil)
def b__law_legal_calls_L122 : Ss :=
  (.cons (.expr (.app (.var 3) (.tup (.cons (.cst (.str "double")) .nil))))
  .nil)
def b__law_legal_calls_L121 : Ss :=
  (.cons (.iff (.cmp .eq (.ix (.ix (.var 2) (.ix (.var 4) (.un .neg (.cst (.int 1))))) (.cst (.int 0))) (.cst (.str "bid"))) b__law_legal_calls_L122 .nil)
  b__law_legal_calls_L123)
def b__law_legal_calls_L120 : Ss :=
  (.cons (.iff (.and (.cmp .ne (.var 4) (.lst .nil)) (.cmp .eq (.bin .mod (.blt .int (.bin .sub (.blt .len (.var 2)) (.ix (.var 4) (.un .neg (.cst (.int 1)))))) (.cst (.int 2))) (.cst (.int 1)))) b__law_legal_calls_L121 .nil)
  b__law_legal_calls_L125)
def b__law_legal_calls_L119 : Ss :=
  (.cons (.asg (.name 7) false (.bin .add (.idx (.var 6) (.var 8)) (.cst (.int 1))))
  .nil)
def b__law_legal_calls_L118 : Ss :=
  (.cons (.iff (.cmp .eq (.ix (.var 8) (.cst (.int 0))) (.cst (.str "bid"))) b__law_legal_calls_L119 .nil)
  .nil)
def b__law_legal_calls_L113 : Ss :=
  (.cons (.asg (.name 3) true (.lst (.cons (.tup (.cons (.cst (.str "pass")) .nil)) .nil)))
  (.cons (.asg (.name 4) false (.comp (.var 5) (.rng1 (.blt .len (.var 2))) (.name 5) (.cmp .ne (.ix (.var 2) (.var 5)) (.tup (.cons (.cst (.str "pass")) .nil))) [5]))
  (.cons (.asg (.name 6) false (.call 9 (.cons (.var 0) (.cons (.var 1) .nil))))
  (.cons (.asg (.name 7) false (.cst (.int 0)))
  (.cons (.for_ (.name 8) (.seq (.var 2)) b__law_legal_calls_L118)
  b__law_legal_calls_L120)))))
def b__law_legal_calls_L112 : Ss :=
  (.cons (.ret (.lst .nil))
  .nil)
def b__law_legal_calls : Ss :=
  (.cons (.iff (.call 10 (.cons (.var 2) .nil)) b__law_legal_calls_L112 .nil)
  b__law_legal_calls_L113)
def d__law_legal_calls : PDef := ⟨⟨("_law_legal_calls", none), "_law_legal_calls", "_law_legal_calls", defArgs (top 22), defBody (top 22), defScope (top 22), [], []⟩, ["_law_suits", "_law_size", "_law_calls"], ["_law_suits", "_law_size", "_law_calls", "_law_found", "_law_places", "_law_k", "_law_bids_here", "_law_low", "_law_call"], ⟨9, b__law_legal_calls⟩, rfl, rfl, fun _ _ _ _ _ _ us hl => match us, hl with | [_, _, _], _ => rfl⟩
/- _law_next_call (0 _law_pool_here, 1 _law_legal, 2 _law_way) -/
def b__law_next_call_L132 : Ss :=
  (.cons (.ret (.ix (.var 1) (.bin .add (.cst (.int 1)) (.call 6 (.cons (.var 0) (.cons (.blt2 .min (.cst (.int 3)) (.bin .sub (.blt .len (.var 1)) (.cst (.int 1)))) .nil))))))
  .nil)
def b__law_next_call_L131 : Ss :=
  (.cons (.ret (.ix (.var 1) (.un .neg (.cst (.int 1)))))
  .nil)
def b__law_next_call_L130 : Ss :=
  (.cons (.iff (.cmp .eq (.var 2) (.cst (.int 2))) b__law_next_call_L131 .nil)
  b__law_next_call_L132)
def b__law_next_call_L129 : Ss :=
  (.cons (.ret (.ix (.var 1) (.cst (.int 0))))
  .nil)
def b__law_next_call : Ss :=
  (.cons (.asg (.name 2) false (.call 6 (.cons (.var 0) (.cons (.cst (.int 6)) .nil))))
  (.cons (.iff (.or (.cmp .lt (.var 2) (.cst (.int 2))) (.cmp .eq (.blt .len (.var 1)) (.cst (.int 1)))) b__law_next_call_L129 .nil)
  b__law_next_call_L130))
def d__law_next_call : PDef := ⟨⟨("_law_next_call", none), "_law_next_call", "_law_next_call", defArgs (top 23), defBody (top 23), defScope (top 23), [], []⟩, ["_law_pool_here", "_law_legal"], ["_law_pool_here", "_law_legal", "_law_way"], ⟨3, b__law_next_call⟩, rfl, rfl, fun _ _ _ _ _ _ us hl => match us, hl with | [_, _], _ => rfl⟩
/- law (0 _law_script, 1 _law_pool_here, 2 _law_turn, 3 _law_suits, 4 _law_size, 5 _law_dealer, 6 _law_auction, 7 _law_calls, 8 _law_k, 9 _law_legal, 10 _law_found, 11 _law_told) -/
@[irreducible] def b_law_L155 : Ss :=
  (.cons (.ret (.cst (.bl true)))
  .nil)
@[irreducible] def b_law_L154 : Ss :=
  (.cons (.ret (.cst (.bl false)))
  .nil)
@[irreducible] def b_law_L152 : Ss :=
  (.cons (.expr (.app (.var 7) (.call 12 (.cons (.var 1) (.cons (.var 9) .nil)))))
  (.cons (.iff (.cmp .isnot (.meth (.var 6) "call" (.cons (.ix (.var 7) (.un .neg (.cst (.int 1)))) .nil)) (.cst .non)) b_law_L154 .nil)
  .nil))
@[irreducible] def b_law_L150 : Ss :=
  (.cons (.expr (.app (.var 11) (.tup (.cons (.cst (.str "pass")) .nil))))
  (.cons (.iff (.cmp .ne (.var 9) (.lst .nil)) b_law_L152 .nil)
  .nil))
@[irreducible] def b_law_L149 : Ss :=
  (.cons (.ret (.cst (.bl false)))
  .nil)
@[irreducible] def b_law_L146 : Ss :=
  (.cons (.expr (.app (.var 10) (.tup (.cons (.cst (.str "pass")) .nil))))
  (.cons (.asg (.name 11) true (.meth (.var 6) "calls" .nil))
  (.cons (.iff (.or (.cmp .ne (.var 11) (.var 7)) (.or (.not (.isi (.var 11) .list)) (.not (.call 8 (.cons (.meth (.var 6) "turn" .nil) (.cons (.bin .mod (.blt .int (.bin .add (.var 5) (.blt .len (.var 7)))) (.cst (.int 4))) .nil)))))) b_law_L149 .nil)
  b_law_L150)))
@[irreducible] def b_law_L145 : Ss :=
  (.cons (.ret (.cst (.bl false)))
  .nil)
@[irreducible] def b_law_L142 : Ss :=
  (.cons (.asg (.name 9) false (.call 11 (.cons (.var 3) (.cons (.var 4) (.cons (.var 7) .nil)))))
  (.cons (.asg (.name 10) true (.meth (.var 6) "legal" .nil))
  (.cons (.iff (.or (.not (.isi (.var 10) .list)) (.or (.cmp .ne (.var 10) (.var 9)) (.not (.call 7 (.cons (.meth (.var 6) "is_over" .nil) (.cons (.cmp .eq (.var 9) (.lst .nil)) .nil)))))) b_law_L145 .nil)
  b_law_L146)))
@[irreducible] def b_law_L136 : Ss :=
  (.cons (.asg (.name 3) false (.bin .add (.cst (.int 1)) (.call 6 (.cons (.var 1) (.cons (.cst (.int 4)) .nil)))))
  (.cons (.asg (.name 4) false (.bin .add (.cst (.int 1)) (.call 6 (.cons (.var 1) (.cons (.ix (.lst (.cons (.cst (.int 13)) (.cons (.cst (.int 3)) .nil))) (.call 6 (.cons (.var 1) (.cons (.cst (.int 2)) .nil)))) .nil)))))
  (.cons (.asg (.name 5) false (.call 6 (.cons (.var 1) (.cons (.cst (.int 4)) .nil))))
  (.cons (.asg (.name 6) false (.make 0 14 (.cons (.var 3) (.cons (.var 4) (.cons (.var 5) .nil)))))
  (.cons (.asg (.name 7) false (.mkbox (.lst .nil)))
  (.cons (.for_ (.name 8) (.rng1 (.cst (.int 30))) b_law_L142)
  .nil))))))
@[irreducible] def b_law : Ss :=
  (.cons (.asg (.name 1) false (.call 5 (.cons (.var 0) .nil)))
  (.cons (.for_ (.name 2) (.rng1 (.cst (.int 2))) b_law_L136)
  b_law_L155))
def d_law : PDef := ⟨⟨("law", none), "law", "law", defArgs (top 24), defBody (top 24), defScope (top 24), [], []⟩, ["_law_script"], ["_law_script", "_law_pool_here", "_law_turn", "_law_suits", "_law_size", "_law_dealer", "_law_auction", "_law_calls", "_law_k", "_law_legal", "_law_found", "_law_told"], ⟨12, b_law⟩, rfl, rfl, fun _ _ _ _ _ _ us hl => match us, hl with | [_], _ => rfl⟩
/- Auction___init__ (0 self, 1 suits, 2 size, 3 dealer) -/
def b_Auction___init__ : Ss :=
  (.cons (.setf false (.var 0) "_bids" (.call 2 (.cons (.var 1) (.cons (.var 2) .nil))))
  (.cons (.setf false (.var 0) "_dealer" (.var 3))
  (.cons (.setf true (.var 0) "_calls" (.lst .nil))
  .nil)))
def d_Auction___init__ : PDef := ⟨⟨("Auction", some "__init__"), "__init__", "Auction.__init__", defArgs (inCls (top 12) 0), defBody (inCls (top 12) 0), defScope (inCls (top 12) 0), [], []⟩, ["self", "suits", "size", "dealer"], ["self", "suits", "size", "dealer"], ⟨4, b_Auction___init__⟩, rfl, rfl, fun _ _ _ _ _ _ us hl => match us, hl with | [_, _, _, _], _ => rfl⟩
/- Auction_player_of (0 self, 1 at) -/
def b_Auction_player_of : Ss :=
  (.cons (.ret (.bin .mod (.bin .add (.fld (.var 0) "_dealer") (.var 1)) (.cst (.int 4))))
  .nil)
def d_Auction_player_of : PDef := ⟨⟨("Auction", some "player_of"), "player_of", "Auction.player_of", defArgs (inCls (top 12) 1), defBody (inCls (top 12) 1), defScope (inCls (top 12) 1), [], []⟩, ["self", "at"], ["self", "at"], ⟨2, b_Auction_player_of⟩, rfl, rfl, fun _ _ _ _ _ _ us hl => match us, hl with | [_, _], _ => rfl⟩
/- Auction_turn (0 self) -/
def b_Auction_turn : Ss :=
  (.cons (.ret (.meth (.var 0) "player_of" (.cons (.blt .len (.fld (.var 0) "_calls")) .nil)))
  .nil)
def d_Auction_turn : PDef := ⟨⟨("Auction", some "turn"), "turn", "Auction.turn", defArgs (inCls (top 12) 2), defBody (inCls (top 12) 2), defScope (inCls (top 12) 2), [], []⟩, ["self"], ["self"], ⟨1, b_Auction_turn⟩, rfl, rfl, fun _ _ _ _ _ _ us hl => match us, hl with | [_], _ => rfl⟩
/- Auction_calls (0 self) -/
def b_Auction_calls : Ss :=
  (.cons (.ret (.blt .list (.fld (.var 0) "_calls")))
  .nil)
def d_Auction_calls : PDef := ⟨⟨("Auction", some "calls"), "calls", "Auction.calls", defArgs (inCls (top 12) 3), defBody (inCls (top 12) 3), defScope (inCls (top 12) 3), [], []⟩, ["self"], ["self"], ⟨1, b_Auction_calls⟩, rfl, rfl, fun _ _ _ _ _ _ us hl => match us, hl with | [_], _ => rfl⟩
/- Auction_last (0 self, 1 places, 2 at, 3 call) -/
def b_Auction_last : Ss :=
  (.cons (.asg (.name 1) false (.comp (.var 2) (.enum (.fld (.var 0) "_calls")) (.tup [2, 3]) (.cmp .ne (.var 3) (.glob 0)) [2, 3]))
  (.cons (.ret (.ife (.cmp .gt (.blt .len (.var 1)) (.cst (.int 0))) (.ix (.var 1) (.un .neg (.cst (.int 1)))) (.un .neg (.cst (.int 1)))))
  .nil))
def d_Auction_last : PDef := ⟨⟨("Auction", some "last"), "last", "Auction.last", defArgs (inCls (top 12) 4), defBody (inCls (top 12) 4), defScope (inCls (top 12) 4), [], []⟩, ["self"], ["self", "places", "at", "call"], ⟨4, b_Auction_last⟩, rfl, rfl, fun _ _ _ _ _ _ us hl => match us, hl with | [_], _ => rfl⟩
/- Auction_last_bid (0 self, 1 places, 2 at, 3 call) -/
def b_Auction_last_bid : Ss :=
  (.cons (.asg (.name 1) false (.comp (.var 2) (.enum (.fld (.var 0) "_calls")) (.tup [2, 3]) (.cmp .eq (.ix (.var 3) (.cst (.int 0))) (.cst (.str "bid"))) [2, 3]))
  (.cons (.ret (.ife (.cmp .gt (.blt .len (.var 1)) (.cst (.int 0))) (.ix (.var 1) (.un .neg (.cst (.int 1)))) (.un .neg (.cst (.int 1)))))
  .nil))
def d_Auction_last_bid : PDef := ⟨⟨("Auction", some "last_bid"), "last_bid", "Auction.last_bid", defArgs (inCls (top 12) 5), defBody (inCls (top 12) 5), defScope (inCls (top 12) 5), [], []⟩, ["self"], ["self", "places", "at", "call"], ⟨4, b_Auction_last_bid⟩, rfl, rfl, fun _ _ _ _ _ _ us hl => match us, hl with | [_], _ => rfl⟩
/- Auction_is_over (0 self, 1 passes) -/
def b_Auction_is_over : Ss :=
  (.cons (.asg (.name 1) false (.bin .sub (.bin .sub (.blt .len (.fld (.var 0) "_calls")) (.cst (.int 1))) (.meth (.var 0) "last" .nil)))
  (.cons (.ret (.or (.cmp .ge (.var 1) (.cst (.int 4))) (.and (.cmp .eq (.var 1) (.cst (.int 3))) (.cmp .ge (.meth (.var 0) "last" .nil) (.cst (.int 0))))))
  .nil))
def d_Auction_is_over : PDef := ⟨⟨("Auction", some "is_over"), "is_over", "Auction.is_over", defArgs (inCls (top 12) 6), defBody (inCls (top 12) 6), defScope (inCls (top 12) 6), [], []⟩, ["self"], ["self", "passes"], ⟨2, b_Auction_is_over⟩, rfl, rfl, fun _ _ _ _ _ _ us hl => match us, hl with | [_], _ => rfl⟩
/- Auction_legal (0 self, 1 last, 2 found, 3 at, 4 lowest) -/
def b_Auction_legal_L59 : Ss :=
  (.cons (.asg (.name 3) false (.meth (.var 0) "last_bid" .nil))
  (.cons (.asg (.name 4) false (.ife (.cmp .lt (.var 3) (.cst (.int 0))) (.cst (.int 0)) (.bin .add (.idx (.fld (.var 0) "_bids") (.ix (.fld (.var 0) "_calls") (.var 3))) (.cst (.int 1)))))
  (.cons (.ret (.bin .add (.var 2) (.sl (.fld (.var 0) "_bids") true (.var 4) false (.cst .non))))
  .nil)))
def b_Auction_legal_L58 : Ss :=
  (.cons (.expr (.app (.var 2) (.glob 2)))
  .nil)
def b_Auction_legal_L57 : Ss :=
  (.cons (.iff (.cmp .eq (.ix (.fld (.var 0) "_calls") (.var 1)) (.glob 1)) b_Auction_legal_L58 .nil)
  .nil)
def b_Auction_legal_L56 : Ss :=
  (.cons (.expr (.app (.var 2) (.glob 1)))
  .nil)
def b_Auction_legal_L55 : Ss :=
  (.cons (.iff (.cmp .eq (.ix (.ix (.fld (.var 0) "_calls") (.var 1)) (.cst (.int 0))) (.cst (.str "bid"))) b_Auction_legal_L56 .nil)
  b_Auction_legal_L57)
def b_Auction_legal_L52 : Ss :=
  (.cons (.asg (.name 1) false (.meth (.var 0) "last" .nil))
  (.cons (.asg (.name 2) true (.lst (.cons (.glob 0) .nil)))
  (.cons (.iff (.and (.cmp .ge (.var 1) (.cst (.int 0))) (.cmp .ne (.call 1 (.cons (.meth (.var 0) "player_of" (.cons (.var 1) .nil)) .nil)) (.call 1 (.cons (.meth (.var 0) "turn" .nil) .nil)))) b_Auction_legal_L55 .nil)
  b_Auction_legal_L59)))
def b_Auction_legal_L51 : Ss :=
  (.cons (.ret (.lst .nil))
  .nil)
def b_Auction_legal : Ss :=
  (.cons (.iff (.meth (.var 0) "is_over" .nil) b_Auction_legal_L51 .nil)
  b_Auction_legal_L52)
def d_Auction_legal : PDef := ⟨⟨("Auction", some "legal"), "legal", "Auction.legal", defArgs (inCls (top 12) 7), defBody (inCls (top 12) 7), defScope (inCls (top 12) 7), [], []⟩, ["self"], ["self", "last", "found", "at", "lowest"], ⟨5, b_Auction_legal⟩, rfl, rfl, fun _ _ _ _ _ _ us hl => match us, hl with | [_], _ => rfl⟩
/- Auction_call (0 self, 1 call) -/
def b_Auction_call_L68 : Ss :=
  (.cons (.expr (.app (.fld (.var 0) "_calls") (.var 1)))
  .nil)
def b_Auction_call_L67 : Ss :=
  (.cons (.raise 2)
  .nil)
def b_Auction_call_L66 : Ss :=
  (.cons (.iff (.cmp .notin (.var 1) (.meth (.var 0) "legal" .nil)) b_Auction_call_L67 .nil)
  b_Auction_call_L68)
def b_Auction_call_L65 : Ss :=
  (.cons (.raise 1)
  .nil)
def b_Auction_call : Ss :=
  (.cons (.iff (.meth (.var 0) "is_over" .nil) b_Auction_call_L65 .nil)
  b_Auction_call_L66)
def d_Auction_call : PDef := ⟨⟨("Auction", some "call"), "call", "Auction.call", defArgs (inCls (top 12) 8), defBody (inCls (top 12) 8), defScope (inCls (top 12) 8), [], []⟩, ["self", "call"], ["self", "call"], ⟨2, b_Auction_call⟩, rfl, rfl, fun _ _ _ _ _ _ us hl => match us, hl with | [_, _], _ => rfl⟩
/- Auction_contract (0 self) -/
def b_Auction_contract : Ss :=
  (.cons (.expr (.call 0 (.cons (.cst (.int 0)) .nil)))
  .nil)
def d_Auction_contract : PDef := ⟨⟨("Auction", some "contract"), "contract", "Auction.contract", defArgs (inCls (top 12) 9), defBody (inCls (top 12) 9), defScope (inCls (top 12) 9), [], []⟩, ["self"], ["self"], ⟨1, b_Auction_contract⟩, rfl, rfl, fun _ _ _ _ _ _ us hl => match us, hl with | [_], _ => rfl⟩
def below : Nat → Nat → Bool
  | 0, 0 => true
  | 1, 0 => true
  | 1, 1 => true
  | 2, 0 => true
  | 2, 2 => true
  | _, _ => false
def pd : PD := ⟨[d__wall, d_side_of, d_bids_of, d__law_is_integer, d__law_numbers, d__law_pool, d__law_pick, d__law_bool, d__law_int, d__law_bids, d__law_is_done, d__law_legal_calls, d__law_next_call, d_law, d_Auction___init__, d_Auction_player_of, d_Auction_turn, d_Auction_calls, d_Auction_last, d_Auction_last_bid, d_Auction_is_over, d_Auction_legal, d_Auction_call, d_Auction_contract], ["FinesseError", "AuctionOver", "IllegalCall"], below, [("PASS", .tup [.str "pass"]), ("DOUBLE", .tup [.str "double"]), ("REDOUBLE", .tup [.str "redouble"])], 100000, [("Auction", 14)], [(0, "call", 22), (0, "calls", 17), (0, "contract", 23), (0, "is_over", 20), (0, "last", 18), (0, "last_bid", 19), (0, "legal", 21), (0, "player_of", 15), (0, "turn", 16)], ["_bids", "_dealer", "_calls"]⟩
abbrev f__wall : Nat := 0
abbrev f_side_of : Nat := 1
abbrev f_bids_of : Nat := 2
abbrev f__law_is_integer : Nat := 3
abbrev f__law_numbers : Nat := 4
abbrev f__law_pool : Nat := 5
abbrev f__law_pick : Nat := 6
abbrev f__law_bool : Nat := 7
abbrev f__law_int : Nat := 8
abbrev f__law_bids : Nat := 9
abbrev f__law_is_done : Nat := 10
abbrev f__law_legal_calls : Nat := 11
abbrev f__law_next_call : Nat := 12
abbrev f_law : Nat := 13
abbrev f_Auction___init__ : Nat := 14
abbrev f_Auction_player_of : Nat := 15
abbrev f_Auction_turn : Nat := 16
abbrev f_Auction_calls : Nat := 17
abbrev f_Auction_last : Nat := 18
abbrev f_Auction_last_bid : Nat := 19
abbrev f_Auction_is_over : Nat := 20
abbrev f_Auction_legal : Nat := 21
abbrev f_Auction_call : Nat := 22
abbrev f_Auction_contract : Nat := 23
def lawAt : Nat := 24
def loose : List Str := (["_wall", "FinesseError", "AuctionOver", "IllegalCall", "side_of", "PASS", "DOUBLE", "REDOUBLE", "bids_of", "Auction", "_law_is_integer", "_law_numbers", "_law_pool", "_law_pick", "_law_bool", "_law_int", "_law_bids", "_law_is_done", "_law_legal_calls", "_law_next_call"] : List Str)
abbrev dLaw : PDef := d_law
abbrev R : PySem.W.OpenRow := PySem.W.OpenLaw.row PySem.Challenge.rw_finesse_k13_legal_calls
theorem pd_ok : pd.ok = true := by decide +kernel
abbrev hk : PySem.W.Hook := hookP 5 pd
def ob (s : PySem.W.SharedT) : He.AlD := obsPG 5 pd (HandSHeadRun.getT s)
theorem ob_eq (s : PySem.W.SharedT) : ob s = hk.obs s.abs := obsPG_eq (HandSHeadRun.getT_eq s)
theorem runs (w : World) : HandSHeadRun.RunEq R (PySem.W.view R.prog [lawAt]) hk ob 20000 loose w := by
  intro os
  kernel_rfl
end Law
namespace Law
open PySem PySem.Spec PyProof.Rows L2 EV
abbrev kTop : Nat := 24
def A : AuP pd.prg where
  gp := 0
  gd := 1
  gr := 2
  e1 := 1
  e2 := 2
  fs := 1
  fb := 2
  fi := 14
  fp := 15
  ft := 16
  fc := 17
  fl := 18
  fk := 19
  fo := 20
  fg := 21
  fa := 22
  hs := rfl
  hb := rfl
  hi := rfl
  hp := rfl
  ht := rfl
  hc := rfl
  hl := rfl
  hk := rfl
  ho := rfl
  hg := rfl
  ha := rfl
  as_ := rfl
  ab := rfl
  ai := rfl
  ap := rfl
  at_ := rfl
  ac := rfl
  al := rfl
  ak := rfl
  ao := rfl
  ag := rfl
  aa := rfl
  ncl := by decide
  mp := rfl
  mt := rfl
  mc := rfl
  ml := rfl
  mkb := rfl
  mo := rfl
  mg := rfl
  ma := rfl
  qp := rfl
  qd := rfl
  qr := rfl
def L : LaP pd.prg where
  fp := 6
  fb := 9
  fd := 10
  fl := 11
  fn := 12
  hp := rfl
  hb := rfl
  hd := rfl
  hl := rfl
  hn := rfl
  ap := rfl
  ab := rfl
  ad := rfl
  al := rfl
  an := rfl
structure Ho (p : Prop) : Prop where
  h : p
section
variable {k : Nat}
theorem boolR (hk : 0 < k) (a b : Bool) (ro : Bool) (T : List Ob) : run pd.prg k 7 ro [.bl a, .bl b] T = .ok (.val (.bl (decide (a = b)))) T := bool_run rfl rfl hk a b ro T
theorem intR (hk : 1 < k) (i j : Int) (ro : Bool) (T : List Ob) : run pd.prg k 8 ro [.int i, .int j] T = .ok (.val (.bl (decide (i = j)))) T := int_run (g := 3) rfl rfl rfl rfl hk i j ro T
/-- the state within a turn -/
structure St (ns : List Int) (q z d : Nat) (cs : List Cl) (a r : Nat) (R : List Ob) : Prop where
  hi : R[r]? = some (.ins 0 (auF (bidN q z) d cs))
  hc : R[r + 1]? = some (.lst (clsD cs))
  hB : Bds (bidN q z) cs
  ht : trail cs ≤ 4
theorem law_it (hk : 10 < k) {ns : List Int} (g : GP ns) (q z d : Nat) (hq : q ≤ 4) (hz : z ≤ 14) (cs : List Cl) (a r : Nat) (R : List Ob) (s : St ns q z d cs a r R) (ha : a < 5000) (hl : cs.length ≤ 200) (s0 s2 s8 s9 s10 s11 : Sl) (Q : Fl → Sta → Prop)
    (hQ : ∀ (cs' : List Cl) (a' : Nat) (R' : List Ob) (s9 s10 s11 : Sl), St ns q z d cs' a' r R' → a' ≤ a + 2 → cs'.length ≤ cs.length + 1 → Q .nx ⟨[s0, .val (.box 0), s2, .val (.int q), .val (.int z), .val (.int d), .val (.box (r + 1)), .val (.box (r + 2)), s8, s9, s10, s11], poN ns a' :: R', false⟩) :
    Ho (W (evSs (Gam pd.prg k) b_law_L142 ⟨[s0, .val (.box 0), s2, .val (.int q), .val (.int z), .val (.int d), .val (.box (r + 1)), .val (.box (r + 2)), s8, s9, s10, s11], poN ns a :: R, false⟩) Q (fun _ _ => False)) := by
  refine ⟨?_⟩
  have zl : sizeLine = 16777216 := rfl
  have hT : (poN ns a :: R)[r + 1]? = some (.ins 0 (auF (bidN q z) d cs)) := by rw [egS]; exact s.hi
  have hU : (poN ns a :: R)[r + 2]? = some (.lst (clsD cs)) := by rw [egS]; exact s.hc
  have hb := bidN_len q z hq hz
  have zla : run pd.prg k 11 false [.int q, .int z, .box (r + 2)] _ = _ := lal_run (k := k) L false (by omega) hU (by omega) q z hq hz s.hB s.ht
  have zl2 := au_legal (k := k) A false (by omega) hT (by omega) (by omega) s.hB
  have zo := au_over (k := k) A false (by omega) hT (by omega)
  have zc := au_calls (k := k) A false (by omega) hT
  have zt := au_turn (k := k) A false (by omega) hT
  have bR := fun a b ro T => boolR (k := k) (by omega) a b ro T
  have iR := fun a b ro T => intR (k := k) (by omega) a b ro T
  have lc := clsD_len cs
  have ho : auOver cs = decide (legalN (bidN q z) cs = []) := by rw [Bool.eq_iff_iff, decide_eq_true_eq]; exact (legal_nil _ _).symm
  have n1 : (Gam pd.prg k).ncl = 1 := rfl
  rw [ho] at zo
  simp -implicitDefEqProofs -dsimp (disch := omega) only [b_law_L142, b_law_L146, List.map, List.length, List.replicate, List.cons_append, List.nil_append, ↓W_dt, ↓W_fld, ↓W_meth, ↓W_make, ↓MkW_n, ↓W_popl, ↓W_setf, ↓W_augx, ↓W_asgM, ↓Gam_ncl, ↓EnW_l, ↓EnW_s, ↓EnW_n, ↓EnW_f, ↓EnW_b, ↓LG_rng, ↓LG_seq, ↓LG_enum, ↓LG_zip, ↓LG_str, ↓LG_seqR, ↓LG_enumR, ↓I3W_f, ↓I3W_b, ↓InW_s, ↓FdW_v, ↓FdW_o, ↓FdW_d, ↓InB_s, ↓D_fld, ↓D_meth, ↓D_setf, ↓SO_v, ↓SO_n, ↓SO_nf, ↓SO_d, ↓sq_f, ↓live_f, ↓live_b, ↓D_lenF, ↓D_ixF, ↓D_appF, ↓D_setF, ↓D_poplF, ↓D_lofF, ↓tp0, ↓tpS, ↓bh_f, ↓CG_rng, ↓CG_seq, ↓CG_enum, ↓CG_zip, ↓CG_str, ↓CG_seqR, ↓CG_enumR, ↓W_var, ↓W_cst, ↓W_glob, ↓W_bin, ↓W_cmp, ↓W_ix, ↓W_un, ↓W_blt, ↓W_blt2, ↓W_isi, ↓W_bits, ↓W_idx, ↓W_find, ↓W_pop, ↓W_dnew, ↓W_dix, ↓W_din, ↓W_sset, ↓D_sset, ↓W_lrg1, ↓W_lrg2, ↓W_dput, ↓StW_s, ↓ViW_i, ↓VaW_v, ↓SlW_d, ↓bh_nd, ↓OdW_s, ↓LnW_o, ↓LnW_d, ↓D_pop, ↓D_dixI, ↓D_dixS, ↓D_dinI, ↓D_dinS, ↓D_dputI, ↓D_dputS, ↓D_find, ↓D_lrg, ↓W_enum, ↓W_zip, ↓W_istr, ↓lstP_l, ↓lstP_s, ↓lstP_n, ↓lstQ_l, ↓W_revl, ↓W_revs, ↓W_sl, ↓W_bind, ↓W_partT, ↓W_partF, ↓PaW_i, ↓D_list, ↓D_tuple, ↓D_sum, ↓D_sorted, ↓D_maxl, ↓D_minl, ↓D_str, ↓D_bits, ↓D_revS, ↓D_revL, ↓D_revN, ↓seq_t, ↓seq_l, ↓seq_s, ↓seq_n, ↓seq_b, ↓seq_o, ↓ints_n, ↓ints_l, ↓inta_n, ↓inta_l, ↓inta_t, ↓W_exi, ↓W_chain, ↓W_not, ↓W_and, ↓W_or, ↓W_ife, ↓W_tup, ↓W_lst, ↓W_call, ↓W_frz, ↓W_mkbox, ↓W_app, ↓W_enil, ↓W_econs, ↓W_rng1, ↓W_rng2, ↓W_seq, ↓W_asg, ↓W_asgO, ↓W_asgT, ↓W_aug, ↓W_setix, ↓W_expr, ↓W_ret, ↓W_retN, ↓W_pass, ↓W_brk, ↓W_cont, ↓W_raise, ↓W_if, ↓W_for, ↓W_nil, ↓W_cons, ↓W_try, ↓W_ok, ↓W_exc, ↓WC_ok, ↓WC_exc, ↓WK_ok, ↓WK_exc, ↓TW_b, ↓DW_v, ↓DW_n, ↓IT_t, ↓IT_f, ↓IT_dt, ↓IT_df, IT_dt, IT_df, ↓IT_e1, ↓IT_e2, ↓IT_e3, ↓IT_e4, ↓IT_n, ↓IT_a, ↓SlW_v, ↓SlW_o, ↓OW_s, ↓FW_nx, ↓FW_rt, ↓FW_bk, ↓FW_ct, ↓RW_v, ↓RW_n, ↓RW_o, ↓bh_v, ↓bh_n, ↓bh_o, ↓Gam_glob, ↓D_add, ↓D_sub, ↓D_mul, ↓D_fdiv, ↓D_mod, ↓D_band, ↓D_bor, ↓D_bxor, ↓D_shl, ↓D_shr, ↓D_lt, ↓D_le, ↓D_gt, ↓D_ge, ↓D_eqi, ↓D_nei, ↓D_eqb, ↓D_eqll, ↓D_nell, ↓D_eqnn, ↓D_nenn, ↓D_eqnl, ↓D_nenl, ↓D_eqln, ↓D_neln, ↓D_eqtt, ↓D_nett, ↓D_ill, ↓D_itt, ↓D_neb, ↓D_isN, ↓D_inN, ↓D_isi1, ↓D_ini1, ↓D_ist1, ↓D_int1, ↓D_isl1, ↓D_inl1, ↓D_isn1, ↓D_inn1, ↓D_isb1, ↓D_inb1, ↓D_neg, ↓D_abs, ↓D_int, ↓D_intb, ↓D_lenT, ↓D_lenL, ↓D_lenS, ↓D_lenN, ↓D_lenB, ↓D_lenO, ↓D_max, ↓D_min, ↓D_ixT, ↓D_ixL, ↓D_ixS, ↓D_ixN, ↓D_ixB, ↓D_ixO, ↓D_setB, ↓D_setO, ↓D_appO, ↓D_lof, ↓D_catNN, ↓D_catNL, ↓D_catLN, ↓D_catLL, ↓D_ii, ↓D_ib, ↓D_bi, ↓D_bb, ↓BW_s, ↓OnW_s, ↓OnB_s, ↓VW_rv, ↓VW_rn, ↓VW_nx, ↓RV_rv, ↓at0, ↓at1, ↓at2, ↓at3, ↓Au_add, ↓Au_sub, ↓Au_bor, ↓Au_mul, ↓sT0, ↓sTS, ↓I1W_i, ↓I2W_i, ↓I3W_l, ↓I3W_s, ↓I3W_t, ↓I3W_n, ↓stepQ_nx, ↓stepQ_ct, ↓stepQ_bk, ↓stepQ_rt, ↓sE, ↓eg0, ↓egS, ↓st0, ↓stS, ↓true_and, ↓and_true, ↓eq_self, ↓isF_v, ↓isF_n, ↓decide_true, ↓decide_false, ↓Bool.not_true, ↓Bool.not_false, List.set_cons_zero, List.set_cons_succ, at4, at5, at6, at7, nAdd, nAddR, nAddL, nMul, nMulR, nMulL, nSub, nSubR, nSubL, nDiv, nDivR, nDivL, nMod, nModR, nBandR, nBorR, nBorL, nShl, nShlL, nShr, nToNat, nMin, nMax, Int.toNat_natCast, band_nat, bor_nat, Nat.zero_add, natsD_len, ↓K_eqn, ↓K_nen, ↓K_eqnR, ↓K_nenR, ↓K_eqo, ↓K_neo, ↓K_eqoR, ↓K_neoR, ↓K_eqb, ↓K_neb, ↓K_eqbR, ↓K_nebR, ↓D_appB, ↓BB_s, ↓D_lofB, ↓D_ilo, ↓IlW_o, ↓D_iln, zla, zl2, zo, zc, zt, s.hi, s.hc, au_m1, au_m2, au_m3, au_m6, au_m7, au_m8, A.mg, A.mo, A.mc, A.mt, ↓D_neCs, ↓D_eqC0, bR, iR, lc]
  have hlen := legal_len (bidN q z) cs
  have lL := clsD_len (legalN (bidN q z) cs)
  have ep : Dt.tup [.str "pass"] = Cl.pass.dt := rfl
  have nn : 0 < pd.prg.ncl := by decide
  have main : W (evSs (Gam pd.prg k) b_law_L150 ⟨[s0, .val (.box 0), s2, .val (.int q), .val (.int z), .val (.int d), .val (.box (r + 1)), .val (.box (r + 2)), s8, .val (.lst (clsD (legalN (bidN q z) cs))), .own (clsD (legalN (bidN q z) cs) ++ [Cl.pass.dt]), .own (clsD cs)], poN ns a :: R, false⟩) Q (fun _ _ => False) := by
    by_cases hn : legalN (bidN q z) cs = []
    · simp -implicitDefEqProofs -dsimp (disch := omega) only [b_law_L150, List.map, List.length, List.replicate, List.cons_append, List.nil_append, ↓W_dt, ↓W_fld, ↓W_meth, ↓W_make, ↓MkW_n, ↓W_popl, ↓W_setf, ↓W_augx, ↓W_asgM, ↓Gam_ncl, ↓EnW_l, ↓EnW_s, ↓EnW_n, ↓EnW_f, ↓EnW_b, ↓LG_rng, ↓LG_seq, ↓LG_enum, ↓LG_zip, ↓LG_str, ↓LG_seqR, ↓LG_enumR, ↓I3W_f, ↓I3W_b, ↓InW_s, ↓FdW_v, ↓FdW_o, ↓FdW_d, ↓InB_s, ↓D_fld, ↓D_meth, ↓D_setf, ↓SO_v, ↓SO_n, ↓SO_nf, ↓SO_d, ↓sq_f, ↓live_f, ↓live_b, ↓D_lenF, ↓D_ixF, ↓D_appF, ↓D_setF, ↓D_poplF, ↓D_lofF, ↓tp0, ↓tpS, ↓bh_f, ↓CG_rng, ↓CG_seq, ↓CG_enum, ↓CG_zip, ↓CG_str, ↓CG_seqR, ↓CG_enumR, ↓W_var, ↓W_cst, ↓W_glob, ↓W_bin, ↓W_cmp, ↓W_ix, ↓W_un, ↓W_blt, ↓W_blt2, ↓W_isi, ↓W_bits, ↓W_idx, ↓W_find, ↓W_pop, ↓W_dnew, ↓W_dix, ↓W_din, ↓W_sset, ↓D_sset, ↓W_lrg1, ↓W_lrg2, ↓W_dput, ↓StW_s, ↓ViW_i, ↓VaW_v, ↓SlW_d, ↓bh_nd, ↓OdW_s, ↓LnW_o, ↓LnW_d, ↓D_pop, ↓D_dixI, ↓D_dixS, ↓D_dinI, ↓D_dinS, ↓D_dputI, ↓D_dputS, ↓D_find, ↓D_lrg, ↓W_enum, ↓W_zip, ↓W_istr, ↓lstP_l, ↓lstP_s, ↓lstP_n, ↓lstQ_l, ↓W_revl, ↓W_revs, ↓W_sl, ↓W_bind, ↓W_partT, ↓W_partF, ↓PaW_i, ↓D_list, ↓D_tuple, ↓D_sum, ↓D_sorted, ↓D_maxl, ↓D_minl, ↓D_str, ↓D_bits, ↓D_revS, ↓D_revL, ↓D_revN, ↓seq_t, ↓seq_l, ↓seq_s, ↓seq_n, ↓seq_b, ↓seq_o, ↓ints_n, ↓ints_l, ↓inta_n, ↓inta_l, ↓inta_t, ↓W_exi, ↓W_chain, ↓W_not, ↓W_and, ↓W_or, ↓W_ife, ↓W_tup, ↓W_lst, ↓W_call, ↓W_frz, ↓W_mkbox, ↓W_app, ↓W_enil, ↓W_econs, ↓W_rng1, ↓W_rng2, ↓W_seq, ↓W_asg, ↓W_asgO, ↓W_asgT, ↓W_aug, ↓W_setix, ↓W_expr, ↓W_ret, ↓W_retN, ↓W_pass, ↓W_brk, ↓W_cont, ↓W_raise, ↓W_if, ↓W_for, ↓W_nil, ↓W_cons, ↓W_try, ↓W_ok, ↓W_exc, ↓WC_ok, ↓WC_exc, ↓WK_ok, ↓WK_exc, ↓TW_b, ↓DW_v, ↓DW_n, ↓IT_t, ↓IT_f, ↓IT_dt, ↓IT_df, IT_dt, IT_df, ↓IT_e1, ↓IT_e2, ↓IT_e3, ↓IT_e4, ↓IT_n, ↓IT_a, ↓SlW_v, ↓SlW_o, ↓OW_s, ↓FW_nx, ↓FW_rt, ↓FW_bk, ↓FW_ct, ↓RW_v, ↓RW_n, ↓RW_o, ↓bh_v, ↓bh_n, ↓bh_o, ↓Gam_glob, ↓D_add, ↓D_sub, ↓D_mul, ↓D_fdiv, ↓D_mod, ↓D_band, ↓D_bor, ↓D_bxor, ↓D_shl, ↓D_shr, ↓D_lt, ↓D_le, ↓D_gt, ↓D_ge, ↓D_eqi, ↓D_nei, ↓D_eqb, ↓D_eqll, ↓D_nell, ↓D_eqnn, ↓D_nenn, ↓D_eqnl, ↓D_nenl, ↓D_eqln, ↓D_neln, ↓D_eqtt, ↓D_nett, ↓D_ill, ↓D_itt, ↓D_neb, ↓D_isN, ↓D_inN, ↓D_isi1, ↓D_ini1, ↓D_ist1, ↓D_int1, ↓D_isl1, ↓D_inl1, ↓D_isn1, ↓D_inn1, ↓D_isb1, ↓D_inb1, ↓D_neg, ↓D_abs, ↓D_int, ↓D_intb, ↓D_lenT, ↓D_lenL, ↓D_lenS, ↓D_lenN, ↓D_lenB, ↓D_lenO, ↓D_max, ↓D_min, ↓D_ixT, ↓D_ixL, ↓D_ixS, ↓D_ixN, ↓D_ixB, ↓D_ixO, ↓D_setB, ↓D_setO, ↓D_appO, ↓D_lof, ↓D_catNN, ↓D_catNL, ↓D_catLN, ↓D_catLL, ↓D_ii, ↓D_ib, ↓D_bi, ↓D_bb, ↓BW_s, ↓OnW_s, ↓OnB_s, ↓VW_rv, ↓VW_rn, ↓VW_nx, ↓RV_rv, ↓at0, ↓at1, ↓at2, ↓at3, ↓Au_add, ↓Au_sub, ↓Au_bor, ↓Au_mul, ↓sT0, ↓sTS, ↓I1W_i, ↓I2W_i, ↓I3W_l, ↓I3W_s, ↓I3W_t, ↓I3W_n, ↓stepQ_nx, ↓stepQ_ct, ↓stepQ_bk, ↓stepQ_rt, ↓sE, ↓eg0, ↓egS, ↓st0, ↓stS, ↓true_and, ↓and_true, ↓eq_self, ↓isF_v, ↓isF_n, ↓decide_true, ↓decide_false, ↓Bool.not_true, ↓Bool.not_false, List.set_cons_zero, List.set_cons_succ, at4, at5, at6, at7, nAdd, nAddR, nAddL, nMul, nMulR, nMulL, nSub, nSubR, nSubL, nDiv, nDivR, nDivL, nMod, nModR, nBandR, nBorR, nBorL, nShl, nShlL, nShr, nToNat, nMin, nMax, Int.toNat_natCast, band_nat, bor_nat, Nat.zero_add, natsD_len, ↓K_eqn, ↓K_nen, ↓K_eqnR, ↓K_nenR, ↓K_eqo, ↓K_neo, ↓K_eqoR, ↓K_neoR, ↓K_eqb, ↓K_neb, ↓K_eqbR, ↓K_nebR, ↓D_appB, ↓BB_s, ↓D_lofB, ↓D_ilo, ↓IlW_o, ↓D_iln, ep, ↓D_neC0, decide_eq_true hn, lc]
      exact ⟨by omega, by omega, by omega, hQ cs a R _ _ _ s (by omega) (by omega)⟩
    · obtain ⟨c, a', hm, h1, h2, hnx⟩ := lan_run (k := k) L (by omega) g a (by omega) (legalN (bidN q z) cs) hn (by omega)
      have hnx : ∀ T, run pd.prg k 12 false [.box 0, .lst (clsD (legalN (bidN q z) cs))] (poN ns a :: T) = .ok (.val c.dt) (poN ns a' :: T) := hnx
      have hr1 : r + 1 < R.length := (List.getElem?_eq_some_iff.1 s.hc).1
      have hg1 : ∀ X, (R.set (r + 1) X)[r + 1]? = some X := fun X => List.getElem?_set_self hr1
      have hg2 : ∀ X, (R.set (r + 1) X)[r]? = some (.ins 0 (auF (bidN q z) d cs)) := fun X => by rw [List.getElem?_set_ne (by omega)]; exact s.hi
      have hT' : (poN ns a' :: R.set (r + 1) (.lst (clsD (cs ++ [c]))))[r + 1]? = some (.ins 0 (auF (bidN q z) d cs)) := by rw [egS]; exact hg2 _
      have zca := au_call (k := k) A (by omega) hT' (by omega) (by omega) s.hB c hm
      have en : atI (clsD (cs ++ [c])) (-1) = some c.dt := by
        rw [at_lastN _ (by rw [clsD_len, List.length_append, List.length_singleton]; omega), cls_get?, clsD_len, List.length_append, List.length_singleton, Nat.add_sub_cancel, List.getElem?_append_right (Nat.le_refl _), Nat.sub_self]; rfl
      have nx := legal_next (bidN_bid q z) s.hB s.ht hm
      have fin := hQ (cs ++ [c]) a' ((R.set (r + 1) (.lst (clsD (cs ++ [c])))).set r (.ins 0 (auF (bidN q z) d (cs ++ [c])))) (.val (.lst (clsD (legalN (bidN q z) cs)))) (.own (clsD (legalN (bidN q z) cs ++ [.pass]))) (.own (clsD (cs ++ [.pass])))
        ⟨by rw [List.getElem?_set_self (by rw [List.length_set]; omega)], by rw [List.getElem?_set_ne (by omega)]; exact hg1 _, nx.1, nx.2⟩ (by omega) (by rw [List.length_append, List.length_singleton]; omega)
      simp -implicitDefEqProofs -dsimp (disch := omega) only [b_law_L150, b_law_L152, List.map, List.length, List.replicate, List.cons_append, List.nil_append, ↓W_dt, ↓W_fld, ↓W_meth, ↓W_make, ↓MkW_n, ↓W_popl, ↓W_setf, ↓W_augx, ↓W_asgM, ↓Gam_ncl, ↓EnW_l, ↓EnW_s, ↓EnW_n, ↓EnW_f, ↓EnW_b, ↓LG_rng, ↓LG_seq, ↓LG_enum, ↓LG_zip, ↓LG_str, ↓LG_seqR, ↓LG_enumR, ↓I3W_f, ↓I3W_b, ↓InW_s, ↓FdW_v, ↓FdW_o, ↓FdW_d, ↓InB_s, ↓D_fld, ↓D_meth, ↓D_setf, ↓SO_v, ↓SO_n, ↓SO_nf, ↓SO_d, ↓sq_f, ↓live_f, ↓live_b, ↓D_lenF, ↓D_ixF, ↓D_appF, ↓D_setF, ↓D_poplF, ↓D_lofF, ↓tp0, ↓tpS, ↓bh_f, ↓CG_rng, ↓CG_seq, ↓CG_enum, ↓CG_zip, ↓CG_str, ↓CG_seqR, ↓CG_enumR, ↓W_var, ↓W_cst, ↓W_glob, ↓W_bin, ↓W_cmp, ↓W_ix, ↓W_un, ↓W_blt, ↓W_blt2, ↓W_isi, ↓W_bits, ↓W_idx, ↓W_find, ↓W_pop, ↓W_dnew, ↓W_dix, ↓W_din, ↓W_sset, ↓D_sset, ↓W_lrg1, ↓W_lrg2, ↓W_dput, ↓StW_s, ↓ViW_i, ↓VaW_v, ↓SlW_d, ↓bh_nd, ↓OdW_s, ↓LnW_o, ↓LnW_d, ↓D_pop, ↓D_dixI, ↓D_dixS, ↓D_dinI, ↓D_dinS, ↓D_dputI, ↓D_dputS, ↓D_find, ↓D_lrg, ↓W_enum, ↓W_zip, ↓W_istr, ↓lstP_l, ↓lstP_s, ↓lstP_n, ↓lstQ_l, ↓W_revl, ↓W_revs, ↓W_sl, ↓W_bind, ↓W_partT, ↓W_partF, ↓PaW_i, ↓D_list, ↓D_tuple, ↓D_sum, ↓D_sorted, ↓D_maxl, ↓D_minl, ↓D_str, ↓D_bits, ↓D_revS, ↓D_revL, ↓D_revN, ↓seq_t, ↓seq_l, ↓seq_s, ↓seq_n, ↓seq_b, ↓seq_o, ↓ints_n, ↓ints_l, ↓inta_n, ↓inta_l, ↓inta_t, ↓W_exi, ↓W_chain, ↓W_not, ↓W_and, ↓W_or, ↓W_ife, ↓W_tup, ↓W_lst, ↓W_call, ↓W_frz, ↓W_mkbox, ↓W_app, ↓W_enil, ↓W_econs, ↓W_rng1, ↓W_rng2, ↓W_seq, ↓W_asg, ↓W_asgO, ↓W_asgT, ↓W_aug, ↓W_setix, ↓W_expr, ↓W_ret, ↓W_retN, ↓W_pass, ↓W_brk, ↓W_cont, ↓W_raise, ↓W_if, ↓W_for, ↓W_nil, ↓W_cons, ↓W_try, ↓W_ok, ↓W_exc, ↓WC_ok, ↓WC_exc, ↓WK_ok, ↓WK_exc, ↓TW_b, ↓DW_v, ↓DW_n, ↓IT_t, ↓IT_f, ↓IT_dt, ↓IT_df, IT_dt, IT_df, ↓IT_e1, ↓IT_e2, ↓IT_e3, ↓IT_e4, ↓IT_n, ↓IT_a, ↓SlW_v, ↓SlW_o, ↓OW_s, ↓FW_nx, ↓FW_rt, ↓FW_bk, ↓FW_ct, ↓RW_v, ↓RW_n, ↓RW_o, ↓bh_v, ↓bh_n, ↓bh_o, ↓Gam_glob, ↓D_add, ↓D_sub, ↓D_mul, ↓D_fdiv, ↓D_mod, ↓D_band, ↓D_bor, ↓D_bxor, ↓D_shl, ↓D_shr, ↓D_lt, ↓D_le, ↓D_gt, ↓D_ge, ↓D_eqi, ↓D_nei, ↓D_eqb, ↓D_eqll, ↓D_nell, ↓D_eqnn, ↓D_nenn, ↓D_eqnl, ↓D_nenl, ↓D_eqln, ↓D_neln, ↓D_eqtt, ↓D_nett, ↓D_ill, ↓D_itt, ↓D_neb, ↓D_isN, ↓D_inN, ↓D_isi1, ↓D_ini1, ↓D_ist1, ↓D_int1, ↓D_isl1, ↓D_inl1, ↓D_isn1, ↓D_inn1, ↓D_isb1, ↓D_inb1, ↓D_neg, ↓D_abs, ↓D_int, ↓D_intb, ↓D_lenT, ↓D_lenL, ↓D_lenS, ↓D_lenN, ↓D_lenB, ↓D_lenO, ↓D_max, ↓D_min, ↓D_ixT, ↓D_ixL, ↓D_ixS, ↓D_ixN, ↓D_ixB, ↓D_ixO, ↓D_setB, ↓D_setO, ↓D_appO, ↓D_lof, ↓D_catNN, ↓D_catNL, ↓D_catLN, ↓D_catLL, ↓D_ii, ↓D_ib, ↓D_bi, ↓D_bb, ↓BW_s, ↓OnW_s, ↓OnB_s, ↓VW_rv, ↓VW_rn, ↓VW_nx, ↓RV_rv, ↓at0, ↓at1, ↓at2, ↓at3, ↓Au_add, ↓Au_sub, ↓Au_bor, ↓Au_mul, ↓sT0, ↓sTS, ↓I1W_i, ↓I2W_i, ↓I3W_l, ↓I3W_s, ↓I3W_t, ↓I3W_n, ↓stepQ_nx, ↓stepQ_ct, ↓stepQ_bk, ↓stepQ_rt, ↓sE, ↓eg0, ↓egS, ↓st0, ↓stS, ↓true_and, ↓and_true, ↓eq_self, ↓isF_v, ↓isF_n, ↓decide_true, ↓decide_false, ↓Bool.not_true, ↓Bool.not_false, List.set_cons_zero, List.set_cons_succ, at4, at5, at6, at7, nAdd, nAddR, nAddL, nMul, nMulR, nMulL, nSub, nSubR, nSubL, nDiv, nDivR, nDivL, nMod, nModR, nBandR, nBorR, nBorL, nShl, nShlL, nShr, nToNat, nMin, nMax, Int.toNat_natCast, band_nat, bor_nat, Nat.zero_add, natsD_len, ↓K_eqn, ↓K_nen, ↓K_eqnR, ↓K_nenR, ↓K_eqo, ↓K_neo, ↓K_eqoR, ↓K_neoR, ↓K_eqb, ↓K_neb, ↓K_eqbR, ↓K_nebR, ↓D_appB, ↓BB_s, ↓D_lofB, ↓D_ilo, ↓IlW_o, ↓D_iln, ep, ↓D_neC0, decide_eq_false hn, lc, s.hc, s.hi, hnx, cls_snoc, hg1, hg2, A.ma, au_m8, en, zca]
      with_reducible and_intros
      all_goals first | omega | decide | exact fin
  with_reducible and_intros
  all_goals first | omega | decide | exact main
end
def inv (s0 : Sl) (ns : List Int) (n : Nat) (st : Sta) : Prop :=
  ∃ (a : Nat) (R : List Ob) (s2 s3 s4 s5 s6 s7 s8 s9 s10 s11 : Sl), a ≤ 100 * n ∧ st = ⟨[s0, .val (.box 0), s2, s3, s4, s5, s6, s7, s8, s9, s10, s11], poN ns a :: R, false⟩
theorem law_turn {k : Nat} (hk : 11 < k) (s0 : Sl) {ns : List Int} (g : GP ns) (n : Nat) (hn : n < 10) (st : Sta) (hi : inv s0 ns n st) (Q : Fl → Sta → Prop) (hQ : ∀ st, inv s0 ns (n + 1) st → Q .nx st) :
    Ho (W (evSs (Gam pd.prg k) b_law_L136 (st.setE 2 (.val (.int (0 + n))))) Q (fun _ _ => False)) := by
  refine ⟨?_⟩
  obtain ⟨a, R, s2, s3, s4, s5, s6, s7, s8, s9, s10, s11, ha, rfl⟩ := hi
  have zl : sizeLine = 16777216 := rfl
  have pk := fun a m h1 hm T => pickN (p := pd.prg) (f := 6) rfl rfl (k := k) (by omega) g a m h1 hm T
  have p1 := pn_lt ns a 4 (by omega)
  have p2 := pn_lt ns (a + 1) 2 (by omega)
  generalize hq : pn ns a 4 = q at p1
  generalize hv : pn ns (a + 1) 2 = v at p2
  have hm : ∃ m : Nat, 0 < m ∧ m ≤ 13 ∧ atI [Dt.int 13, .int 3] (v : Int) = some (.int m) := by
    have hv' : v = 0 ∨ v = 1 := by omega
    rcases hv' with rfl | rfl
    · exact ⟨13, by omega, by omega, rfl⟩
    · exact ⟨3, by omega, by omega, rfl⟩
  obtain ⟨m, hm1, hm2, hm3⟩ := hm
  have p3 := pn_lt ns (a + 1 + 1) (m : Int) (by omega)
  generalize hz : pn ns (a + 1 + 1) (m : Int) = z at p3
  have p4 := pn_lt ns (a + 1 + 1 + 1) 4 (by omega)
  generalize hd : pn ns (a + 1 + 1 + 1) 4 = d at p4
  have hini : ∀ p0 R, run pd.prg k 14 false [.box (R.length + 1), .int (1 + q : Nat), .int (1 + z : Nat), .int d] (p0 :: (R ++ [.ins 0 []])) = .ok (.val .non) (p0 :: (R ++ [.ins 0 (auF (bidN (1 + q) (1 + z)) d [])])) := fun p0 R => by
    have h := au_init (d := d) (k := k) A (by omega) (T := p0 :: (R ++ [.ins 0 []])) (n := R.length + 1) (by rw [egS, List.getElem?_append_right (Nat.le_refl _), Nat.sub_self]; rfl) (1 + q) (1 + z) (by omega) (by omega)
    rw [List.set_cons_succ, List.set_append_right _ _ (Nat.le_refl _), Nat.sub_self] at h
    exact h
  have la : ∀ (R : List Ob) x, (R ++ [x]).length = R.length + 1 := fun R x => by rw [List.length_append]; rfl
  simp -implicitDefEqProofs -dsimp (disch := omega) only [b_law_L136, List.map, List.length, List.replicate, List.cons_append, List.nil_append, ↓W_dt, ↓W_fld, ↓W_meth, ↓W_make, ↓MkW_n, ↓W_popl, ↓W_setf, ↓W_augx, ↓W_asgM, ↓Gam_ncl, ↓EnW_l, ↓EnW_s, ↓EnW_n, ↓EnW_f, ↓EnW_b, ↓LG_rng, ↓LG_seq, ↓LG_enum, ↓LG_zip, ↓LG_str, ↓LG_seqR, ↓LG_enumR, ↓I3W_f, ↓I3W_b, ↓InW_s, ↓FdW_v, ↓FdW_o, ↓FdW_d, ↓InB_s, ↓D_fld, ↓D_meth, ↓D_setf, ↓SO_v, ↓SO_n, ↓SO_nf, ↓SO_d, ↓sq_f, ↓live_f, ↓live_b, ↓D_lenF, ↓D_ixF, ↓D_appF, ↓D_setF, ↓D_poplF, ↓D_lofF, ↓tp0, ↓tpS, ↓bh_f, ↓CG_rng, ↓CG_seq, ↓CG_enum, ↓CG_zip, ↓CG_str, ↓CG_seqR, ↓CG_enumR, ↓W_var, ↓W_cst, ↓W_glob, ↓W_bin, ↓W_cmp, ↓W_ix, ↓W_un, ↓W_blt, ↓W_blt2, ↓W_isi, ↓W_bits, ↓W_idx, ↓W_find, ↓W_pop, ↓W_dnew, ↓W_dix, ↓W_din, ↓W_sset, ↓D_sset, ↓W_lrg1, ↓W_lrg2, ↓W_dput, ↓StW_s, ↓ViW_i, ↓VaW_v, ↓SlW_d, ↓bh_nd, ↓OdW_s, ↓LnW_o, ↓LnW_d, ↓D_pop, ↓D_dixI, ↓D_dixS, ↓D_dinI, ↓D_dinS, ↓D_dputI, ↓D_dputS, ↓D_find, ↓D_lrg, ↓W_enum, ↓W_zip, ↓W_istr, ↓lstP_l, ↓lstP_s, ↓lstP_n, ↓lstQ_l, ↓W_revl, ↓W_revs, ↓W_sl, ↓W_bind, ↓W_partT, ↓W_partF, ↓PaW_i, ↓D_list, ↓D_tuple, ↓D_sum, ↓D_sorted, ↓D_maxl, ↓D_minl, ↓D_str, ↓D_bits, ↓D_revS, ↓D_revL, ↓D_revN, ↓seq_t, ↓seq_l, ↓seq_s, ↓seq_n, ↓seq_b, ↓seq_o, ↓ints_n, ↓ints_l, ↓inta_n, ↓inta_l, ↓inta_t, ↓W_exi, ↓W_chain, ↓W_not, ↓W_and, ↓W_or, ↓W_ife, ↓W_tup, ↓W_lst, ↓W_call, ↓W_frz, ↓W_mkbox, ↓W_app, ↓W_enil, ↓W_econs, ↓W_rng1, ↓W_rng2, ↓W_seq, ↓W_asg, ↓W_asgO, ↓W_asgT, ↓W_aug, ↓W_setix, ↓W_expr, ↓W_ret, ↓W_retN, ↓W_pass, ↓W_brk, ↓W_cont, ↓W_raise, ↓W_if, ↓W_for, ↓W_nil, ↓W_cons, ↓W_try, ↓W_ok, ↓W_exc, ↓WC_ok, ↓WC_exc, ↓WK_ok, ↓WK_exc, ↓TW_b, ↓DW_v, ↓DW_n, ↓IT_t, ↓IT_f, ↓IT_dt, ↓IT_df, IT_dt, IT_df, ↓IT_e1, ↓IT_e2, ↓IT_e3, ↓IT_e4, ↓IT_n, ↓IT_a, ↓SlW_v, ↓SlW_o, ↓OW_s, ↓FW_nx, ↓FW_rt, ↓FW_bk, ↓FW_ct, ↓RW_v, ↓RW_n, ↓RW_o, ↓bh_v, ↓bh_n, ↓bh_o, ↓Gam_glob, ↓D_add, ↓D_sub, ↓D_mul, ↓D_fdiv, ↓D_mod, ↓D_band, ↓D_bor, ↓D_bxor, ↓D_shl, ↓D_shr, ↓D_lt, ↓D_le, ↓D_gt, ↓D_ge, ↓D_eqi, ↓D_nei, ↓D_eqb, ↓D_eqll, ↓D_nell, ↓D_eqnn, ↓D_nenn, ↓D_eqnl, ↓D_nenl, ↓D_eqln, ↓D_neln, ↓D_eqtt, ↓D_nett, ↓D_ill, ↓D_itt, ↓D_neb, ↓D_isN, ↓D_inN, ↓D_isi1, ↓D_ini1, ↓D_ist1, ↓D_int1, ↓D_isl1, ↓D_inl1, ↓D_isn1, ↓D_inn1, ↓D_isb1, ↓D_inb1, ↓D_neg, ↓D_abs, ↓D_int, ↓D_intb, ↓D_lenT, ↓D_lenL, ↓D_lenS, ↓D_lenN, ↓D_lenB, ↓D_lenO, ↓D_max, ↓D_min, ↓D_ixT, ↓D_ixL, ↓D_ixS, ↓D_ixN, ↓D_ixB, ↓D_ixO, ↓D_setB, ↓D_setO, ↓D_appO, ↓D_lof, ↓D_catNN, ↓D_catNL, ↓D_catLN, ↓D_catLL, ↓D_ii, ↓D_ib, ↓D_bi, ↓D_bb, ↓BW_s, ↓OnW_s, ↓OnB_s, ↓VW_rv, ↓VW_rn, ↓VW_nx, ↓RV_rv, ↓at0, ↓at1, ↓at2, ↓at3, ↓Au_add, ↓Au_sub, ↓Au_bor, ↓Au_mul, ↓sT0, ↓sTS, ↓I1W_i, ↓I2W_i, ↓I3W_l, ↓I3W_s, ↓I3W_t, ↓I3W_n, ↓stepQ_nx, ↓stepQ_ct, ↓stepQ_bk, ↓stepQ_rt, ↓sE, ↓eg0, ↓egS, ↓st0, ↓stS, ↓true_and, ↓and_true, ↓eq_self, ↓isF_v, ↓isF_n, ↓decide_true, ↓decide_false, ↓Bool.not_true, ↓Bool.not_false, List.set_cons_zero, List.set_cons_succ, at4, at5, at6, at7, nAdd, nAddR, nAddL, nMul, nMulR, nMulL, nSub, nSubR, nSubL, nDiv, nDivR, nDivL, nMod, nModR, nBandR, nBorR, nBorL, nShl, nShlL, nShr, nToNat, nMin, nMax, Int.toNat_natCast, band_nat, bor_nat, Nat.zero_add, natsD_len, ↓K_eqn, ↓K_nen, ↓K_eqnR, ↓K_nenR, ↓K_eqo, ↓K_neo, ↓K_eqoR, ↓K_neoR, ↓K_eqb, ↓K_neb, ↓K_eqbR, ↓K_nebR, ↓D_appB, ↓BB_s, ↓D_lofB, ↓D_ilo, ↓IlW_o, ↓D_iln, pk, hq, hv, hm3, hz, hd, hini, la]
  with_reducible and_intros
  all_goals first | omega | decide | exact smallR_in _ _ (by omega) (by omega) (by omega) (by omega) | skip
  refine W_loop_rng (fun j st => ∃ (cs : List Cl) (a' : Nat) (R' : List Ob) (s8 s9 s10 s11 : Sl), St ns (1 + q) (1 + z) d cs a' R.length R' ∧ a' ≤ a + 4 + 2 * j ∧ cs.length ≤ j ∧ st = ⟨[s0, .val (.box 0), .val (.int (n : Nat)), .val (.int (1 + q : Nat)), .val (.int (1 + z : Nat)), .val (.int d), .val (.box (R.length + 1)), .val (.box (R.length + 2)), s8, s9, s10, s11], poN ns a' :: R', false⟩) ?_ ?_ ?_
  · refine ⟨[], a + 1 + 1 + 1 + 1, _, _, _, _, _, ⟨?_, ?_, fun c hc => (by cases hc), by decide⟩, by omega, by decide, rfl⟩
    · rw [List.append_assoc, List.getElem?_append_right (Nat.le_refl _), Nat.sub_self]; rfl
    · rw [List.append_assoc, List.getElem?_append_right (by omega), Nat.add_sub_cancel_left]; rfl
  · rintro j st hj ⟨cs, a', R', s8, s9, s10, s11, S, h1, h2, rfl⟩
    refine (law_it (by omega) g (1 + q) (1 + z) d (by omega) (by omega) cs a' R.length R' S (by omega) (by omega) s0 _ _ s9 s10 s11 _ ?_).h
    intro cs' a'' R'' s9 s10 s11 S' h3 h4
    rw [stepQ_nx]
    exact ⟨cs', a'', R'', _, _, _, _, S', by omega, by omega, rfl⟩
  · rintro st ⟨cs, a', R', s8, s9, s10, s11, S, h1, h2, rfl⟩
    rw [FW_nx, W_nil]
    exact hQ _ ⟨a', R', _, _, _, _, _, _, _, _, _, _, by omega, rfl⟩
theorem law_all {k : Nat} (hk : 14 < k) (s : List Int) (hs : s.length ≤ 63) : WC (run pd.prg k f_law false [.slst (s.map .int)] []) (fun h S => h = .val (.bl true)) (fun _ _ => False) := by
  obtain ⟨ns, g, hp⟩ := pool_run (p := pd.prg) (f := 5) (g := 4) rfl rfl rfl rfl (k := k - 1) (by omega) hs
  refine WC_run rfl rfl (by omega) ?_
  simp -implicitDefEqProofs -dsimp (disch := omega) only [b_law, List.map, List.length, List.replicate, List.cons_append, List.nil_append, ↓W_dt, ↓W_fld, ↓W_meth, ↓W_make, ↓MkW_n, ↓W_popl, ↓W_setf, ↓W_augx, ↓W_asgM, ↓Gam_ncl, ↓EnW_l, ↓EnW_s, ↓EnW_n, ↓EnW_f, ↓EnW_b, ↓LG_rng, ↓LG_seq, ↓LG_enum, ↓LG_zip, ↓LG_str, ↓LG_seqR, ↓LG_enumR, ↓I3W_f, ↓I3W_b, ↓InW_s, ↓FdW_v, ↓FdW_o, ↓FdW_d, ↓InB_s, ↓D_fld, ↓D_meth, ↓D_setf, ↓SO_v, ↓SO_n, ↓SO_nf, ↓SO_d, ↓sq_f, ↓live_f, ↓live_b, ↓D_lenF, ↓D_ixF, ↓D_appF, ↓D_setF, ↓D_poplF, ↓D_lofF, ↓tp0, ↓tpS, ↓bh_f, ↓CG_rng, ↓CG_seq, ↓CG_enum, ↓CG_zip, ↓CG_str, ↓CG_seqR, ↓CG_enumR, ↓W_var, ↓W_cst, ↓W_glob, ↓W_bin, ↓W_cmp, ↓W_ix, ↓W_un, ↓W_blt, ↓W_blt2, ↓W_isi, ↓W_bits, ↓W_idx, ↓W_find, ↓W_pop, ↓W_dnew, ↓W_dix, ↓W_din, ↓W_sset, ↓D_sset, ↓W_lrg1, ↓W_lrg2, ↓W_dput, ↓StW_s, ↓ViW_i, ↓VaW_v, ↓SlW_d, ↓bh_nd, ↓OdW_s, ↓LnW_o, ↓LnW_d, ↓D_pop, ↓D_dixI, ↓D_dixS, ↓D_dinI, ↓D_dinS, ↓D_dputI, ↓D_dputS, ↓D_find, ↓D_lrg, ↓W_enum, ↓W_zip, ↓W_istr, ↓lstP_l, ↓lstP_s, ↓lstP_n, ↓lstQ_l, ↓W_revl, ↓W_revs, ↓W_sl, ↓W_bind, ↓W_partT, ↓W_partF, ↓PaW_i, ↓D_list, ↓D_tuple, ↓D_sum, ↓D_sorted, ↓D_maxl, ↓D_minl, ↓D_str, ↓D_bits, ↓D_revS, ↓D_revL, ↓D_revN, ↓seq_t, ↓seq_l, ↓seq_s, ↓seq_n, ↓seq_b, ↓seq_o, ↓ints_n, ↓ints_l, ↓inta_n, ↓inta_l, ↓inta_t, ↓W_exi, ↓W_chain, ↓W_not, ↓W_and, ↓W_or, ↓W_ife, ↓W_tup, ↓W_lst, ↓W_call, ↓W_frz, ↓W_mkbox, ↓W_app, ↓W_enil, ↓W_econs, ↓W_rng1, ↓W_rng2, ↓W_seq, ↓W_asg, ↓W_asgO, ↓W_asgT, ↓W_aug, ↓W_setix, ↓W_expr, ↓W_ret, ↓W_retN, ↓W_pass, ↓W_brk, ↓W_cont, ↓W_raise, ↓W_if, ↓W_for, ↓W_nil, ↓W_cons, ↓W_try, ↓W_ok, ↓W_exc, ↓WC_ok, ↓WC_exc, ↓WK_ok, ↓WK_exc, ↓TW_b, ↓DW_v, ↓DW_n, ↓IT_t, ↓IT_f, ↓IT_dt, ↓IT_df, IT_dt, IT_df, ↓IT_e1, ↓IT_e2, ↓IT_e3, ↓IT_e4, ↓IT_n, ↓IT_a, ↓SlW_v, ↓SlW_o, ↓OW_s, ↓FW_nx, ↓FW_rt, ↓FW_bk, ↓FW_ct, ↓RW_v, ↓RW_n, ↓RW_o, ↓bh_v, ↓bh_n, ↓bh_o, ↓Gam_glob, ↓D_add, ↓D_sub, ↓D_mul, ↓D_fdiv, ↓D_mod, ↓D_band, ↓D_bor, ↓D_bxor, ↓D_shl, ↓D_shr, ↓D_lt, ↓D_le, ↓D_gt, ↓D_ge, ↓D_eqi, ↓D_nei, ↓D_eqb, ↓D_eqll, ↓D_nell, ↓D_eqnn, ↓D_nenn, ↓D_eqnl, ↓D_nenl, ↓D_eqln, ↓D_neln, ↓D_eqtt, ↓D_nett, ↓D_ill, ↓D_itt, ↓D_neb, ↓D_isN, ↓D_inN, ↓D_isi1, ↓D_ini1, ↓D_ist1, ↓D_int1, ↓D_isl1, ↓D_inl1, ↓D_isn1, ↓D_inn1, ↓D_isb1, ↓D_inb1, ↓D_neg, ↓D_abs, ↓D_int, ↓D_intb, ↓D_lenT, ↓D_lenL, ↓D_lenS, ↓D_lenN, ↓D_lenB, ↓D_lenO, ↓D_max, ↓D_min, ↓D_ixT, ↓D_ixL, ↓D_ixS, ↓D_ixN, ↓D_ixB, ↓D_ixO, ↓D_setB, ↓D_setO, ↓D_appO, ↓D_lof, ↓D_catNN, ↓D_catNL, ↓D_catLN, ↓D_catLL, ↓D_ii, ↓D_ib, ↓D_bi, ↓D_bb, ↓BW_s, ↓OnW_s, ↓OnB_s, ↓VW_rv, ↓VW_rn, ↓VW_nx, ↓RV_rv, ↓at0, ↓at1, ↓at2, ↓at3, ↓Au_add, ↓Au_sub, ↓Au_bor, ↓Au_mul, ↓sT0, ↓sTS, ↓I1W_i, ↓I2W_i, ↓I3W_l, ↓I3W_s, ↓I3W_t, ↓I3W_n, ↓stepQ_nx, ↓stepQ_ct, ↓stepQ_bk, ↓stepQ_rt, ↓sE, ↓eg0, ↓egS, ↓st0, ↓stS, ↓true_and, ↓and_true, ↓eq_self, ↓isF_v, ↓isF_n, ↓decide_true, ↓decide_false, ↓Bool.not_true, ↓Bool.not_false, List.set_cons_zero, List.set_cons_succ, at4, at5, at6, at7, nAdd, nAddR, nAddL, nMul, nMulR, nMulL, nSub, nSubR, nSubL, nDiv, nDivR, nDivL, nMod, nModR, nBandR, nBorR, nBorL, nShl, nShlL, nShr, nToNat, nMin, nMax, Int.toNat_natCast, band_nat, bor_nat, Nat.zero_add, natsD_len, ↓K_eqn, ↓K_nen, ↓K_eqnR, ↓K_nenR, ↓K_eqo, ↓K_neo, ↓K_eqoR, ↓K_neoR, ↓K_eqb, ↓K_neb, ↓K_eqbR, ↓K_nebR, ↓D_appB, ↓BB_s, ↓D_lofB, ↓D_ilo, ↓IlW_o, ↓D_iln, hp, smallR_in]
  refine W_loop_rng (fun n => inv (.val (.slst (s.map .int))) ns n) ⟨0, [], _, _, _, _, _, _, _, _, _, _, by omega, rfl⟩ ?_ ?_
  · intro n st hn hi
    exact (law_turn (by omega) _ g n (by omega) st hi _ (fun _ h => h)).h
  · rintro st ⟨a, R, s2, s3, s4, s5, s6, s7, s8, s9, s10, s11, ha, rfl⟩
    simp -implicitDefEqProofs -dsimp (disch := omega) only [b_law_L155, List.map, List.length, List.replicate, List.cons_append, List.nil_append, ↓W_dt, ↓W_fld, ↓W_meth, ↓W_make, ↓MkW_n, ↓W_popl, ↓W_setf, ↓W_augx, ↓W_asgM, ↓Gam_ncl, ↓EnW_l, ↓EnW_s, ↓EnW_n, ↓EnW_f, ↓EnW_b, ↓LG_rng, ↓LG_seq, ↓LG_enum, ↓LG_zip, ↓LG_str, ↓LG_seqR, ↓LG_enumR, ↓I3W_f, ↓I3W_b, ↓InW_s, ↓FdW_v, ↓FdW_o, ↓FdW_d, ↓InB_s, ↓D_fld, ↓D_meth, ↓D_setf, ↓SO_v, ↓SO_n, ↓SO_nf, ↓SO_d, ↓sq_f, ↓live_f, ↓live_b, ↓D_lenF, ↓D_ixF, ↓D_appF, ↓D_setF, ↓D_poplF, ↓D_lofF, ↓tp0, ↓tpS, ↓bh_f, ↓CG_rng, ↓CG_seq, ↓CG_enum, ↓CG_zip, ↓CG_str, ↓CG_seqR, ↓CG_enumR, ↓W_var, ↓W_cst, ↓W_glob, ↓W_bin, ↓W_cmp, ↓W_ix, ↓W_un, ↓W_blt, ↓W_blt2, ↓W_isi, ↓W_bits, ↓W_idx, ↓W_find, ↓W_pop, ↓W_dnew, ↓W_dix, ↓W_din, ↓W_sset, ↓D_sset, ↓W_lrg1, ↓W_lrg2, ↓W_dput, ↓StW_s, ↓ViW_i, ↓VaW_v, ↓SlW_d, ↓bh_nd, ↓OdW_s, ↓LnW_o, ↓LnW_d, ↓D_pop, ↓D_dixI, ↓D_dixS, ↓D_dinI, ↓D_dinS, ↓D_dputI, ↓D_dputS, ↓D_find, ↓D_lrg, ↓W_enum, ↓W_zip, ↓W_istr, ↓lstP_l, ↓lstP_s, ↓lstP_n, ↓lstQ_l, ↓W_revl, ↓W_revs, ↓W_sl, ↓W_bind, ↓W_partT, ↓W_partF, ↓PaW_i, ↓D_list, ↓D_tuple, ↓D_sum, ↓D_sorted, ↓D_maxl, ↓D_minl, ↓D_str, ↓D_bits, ↓D_revS, ↓D_revL, ↓D_revN, ↓seq_t, ↓seq_l, ↓seq_s, ↓seq_n, ↓seq_b, ↓seq_o, ↓ints_n, ↓ints_l, ↓inta_n, ↓inta_l, ↓inta_t, ↓W_exi, ↓W_chain, ↓W_not, ↓W_and, ↓W_or, ↓W_ife, ↓W_tup, ↓W_lst, ↓W_call, ↓W_frz, ↓W_mkbox, ↓W_app, ↓W_enil, ↓W_econs, ↓W_rng1, ↓W_rng2, ↓W_seq, ↓W_asg, ↓W_asgO, ↓W_asgT, ↓W_aug, ↓W_setix, ↓W_expr, ↓W_ret, ↓W_retN, ↓W_pass, ↓W_brk, ↓W_cont, ↓W_raise, ↓W_if, ↓W_for, ↓W_nil, ↓W_cons, ↓W_try, ↓W_ok, ↓W_exc, ↓WC_ok, ↓WC_exc, ↓WK_ok, ↓WK_exc, ↓TW_b, ↓DW_v, ↓DW_n, ↓IT_t, ↓IT_f, ↓IT_dt, ↓IT_df, IT_dt, IT_df, ↓IT_e1, ↓IT_e2, ↓IT_e3, ↓IT_e4, ↓IT_n, ↓IT_a, ↓SlW_v, ↓SlW_o, ↓OW_s, ↓FW_nx, ↓FW_rt, ↓FW_bk, ↓FW_ct, ↓RW_v, ↓RW_n, ↓RW_o, ↓bh_v, ↓bh_n, ↓bh_o, ↓Gam_glob, ↓D_add, ↓D_sub, ↓D_mul, ↓D_fdiv, ↓D_mod, ↓D_band, ↓D_bor, ↓D_bxor, ↓D_shl, ↓D_shr, ↓D_lt, ↓D_le, ↓D_gt, ↓D_ge, ↓D_eqi, ↓D_nei, ↓D_eqb, ↓D_eqll, ↓D_nell, ↓D_eqnn, ↓D_nenn, ↓D_eqnl, ↓D_nenl, ↓D_eqln, ↓D_neln, ↓D_eqtt, ↓D_nett, ↓D_ill, ↓D_itt, ↓D_neb, ↓D_isN, ↓D_inN, ↓D_isi1, ↓D_ini1, ↓D_ist1, ↓D_int1, ↓D_isl1, ↓D_inl1, ↓D_isn1, ↓D_inn1, ↓D_isb1, ↓D_inb1, ↓D_neg, ↓D_abs, ↓D_int, ↓D_intb, ↓D_lenT, ↓D_lenL, ↓D_lenS, ↓D_lenN, ↓D_lenB, ↓D_lenO, ↓D_max, ↓D_min, ↓D_ixT, ↓D_ixL, ↓D_ixS, ↓D_ixN, ↓D_ixB, ↓D_ixO, ↓D_setB, ↓D_setO, ↓D_appO, ↓D_lof, ↓D_catNN, ↓D_catNL, ↓D_catLN, ↓D_catLL, ↓D_ii, ↓D_ib, ↓D_bi, ↓D_bb, ↓BW_s, ↓OnW_s, ↓OnB_s, ↓VW_rv, ↓VW_rn, ↓VW_nx, ↓RV_rv, ↓at0, ↓at1, ↓at2, ↓at3, ↓Au_add, ↓Au_sub, ↓Au_bor, ↓Au_mul, ↓sT0, ↓sTS, ↓I1W_i, ↓I2W_i, ↓I3W_l, ↓I3W_s, ↓I3W_t, ↓I3W_n, ↓stepQ_nx, ↓stepQ_ct, ↓stepQ_bk, ↓stepQ_rt, ↓sE, ↓eg0, ↓egS, ↓st0, ↓stS, ↓true_and, ↓and_true, ↓eq_self, ↓isF_v, ↓isF_n, ↓decide_true, ↓decide_false, ↓Bool.not_true, ↓Bool.not_false, List.set_cons_zero, List.set_cons_succ, at4, at5, at6, at7, nAdd, nAddR, nAddL, nMul, nMulR, nMulL, nSub, nSubR, nSubL, nDiv, nDivR, nDivL, nMod, nModR, nBandR, nBorR, nBorL, nShl, nShlL, nShr, nToNat, nMin, nMax, Int.toNat_natCast, band_nat, bor_nat, Nat.zero_add, natsD_len, ↓K_eqn, ↓K_nen, ↓K_eqnR, ↓K_nenR, ↓K_eqo, ↓K_neo, ↓K_eqoR, ↓K_neoR, ↓K_eqb, ↓K_neb, ↓K_eqbR, ↓K_nebR, ↓D_appB, ↓BB_s, ↓D_lofB, ↓D_ilo, ↓IlW_o, ↓D_iln]
theorem law_true (s : List Int) (hs : s.length ≤ 63) : ∃ S, run pd.prg kTop f_law false [.slst (s.map .int)] [] = .ok (.val (.bl true)) S :=
  WC_ex (law_all (k := kTop) (by decide) s hs)

end Law
open PySem PySem.W PySem.Calls PyProof.Rows
set_option maxRecDepth 100000 in
set_option maxHeartbeats 0 in
theorem PySem.Challenge.cw_finesse_k13_legal_calls_holds : PySem.Challenge.rw_finesse_k13_legal_calls.Holds := by
  w_on; o_law
  refine HandSHeadRun.head_any (r := OpenLaw.row PySem.Challenge.rw_finesse_k13_legal_calls) (q := view (OpenLaw.row PySem.Challenge.rw_finesse_k13_legal_calls).prog [Law.lawAt]) (H := Law.hk) (ob := Law.ob) (M := 20000) (loose := Law.loose) (d := HandSHeadRun.topDef (OpenLaw.row PySem.Challenge.rw_finesse_k13_legal_calls).prog Law.lawAt) (kwd := []) Law.ob_eq
    (by kernel_rfl) (fun s => by kernel_rfl) Law.runs (by kernel_rfl) (by kernel_rfl) (by kernel_rfl) (by rfl) (by first | assumption | decide +kernel) (by decide +kernel) ⟨rfl, rfl, rfl, rfl, rfl, by decide +kernel⟩ ?hw ?hc
  case hw => w_witness2
  case hc => exact EV.law_walk (n := 5) (kk := Law.kTop) (f := Law.f_law) (pf := Law.d_law) (x := "_law_script") rfl (by kernel_rfl) ⟨rfl, by decide, by decide⟩ Law.pd_ok rfl rfl (by kernel_rfl) rfl Law.law_true
